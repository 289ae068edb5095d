import PyProof.Rows.All
import HandS.TupAny
import KE.DataFind
import KE.DataEq
import HandS.Deep
import HandS.TupMul
import HandS.Style
import HandS.ForMost
import HandS.ForExc
import HandS.CallSlots
import HandS.IsInst
import HandS.Conv
import HandS.DictTup
import HandS.TupLen
import HandS.Strs
import HandS.Zip
import HandS.SetFor
import KE.KDictWalk
import KE.DataMinMax
import PyProof.P3Eq
import HandS.More
import PyProof.Rows.CallKwBuiltin
import PyProof.Rows.Chain
import KE.KIndexOf
import KE.KRevSl
import HandS.Iter
import KE.GoesMore
import PyProof.Draws
import HandS.ExcIs
import PySem.Challenge.RW_overunder_k09_what_falls
import KE.KExcLine
import Open.Row
set_option Elab.async false
set_option linter.all false
set_option maxRecDepth 100000
set_option maxHeartbeats 4000000
/-! D-layer: tuples made in the run, known to have no dict of their own. -/
namespace L2
open PySem PySem.Spec PyProof.Rows HT
/-- a tuple without a dict -/
def TupK (H : Hp) (a : Addr) (xs : List V) : Prop := ∃ ob : Obj, H a = some (.frz ob (.tup xs)) ∧ ob.dict = none
theorem TupK.sq {K : PySem.W.Frag} {H : Hp} {a : Addr} {xs : List V} (h : TupK H a xs) : SqT K H a xs := by
  obtain ⟨ob, e, _⟩ := h
  exact .inl (.inr ⟨ob, e⟩)
theorem TupK.inj {H : Hp} {a : Addr} {xs ys : List V} (h : TupK H a xs) (h' : TupK H a ys) : xs = ys := by
  obtain ⟨ob, e, _⟩ := h
  obtain ⟨ob', e', _⟩ := h'
  rw [e] at e'
  cases e'
  rfl
section
variable {X : Cx} {pins : List (Addr × Obj)} {σ : St} {H : Hp} {s : Shared}
/-- a new tuple, known -/
theorem Inv.layT (I : Inv X pins σ H s) {h' : Heap} (kp : ∀ b u, s.heap.get? b = some u → h'.get? b = some u) {xs : List V} {us : List Value} (rv : Vals xs us) (hz : xs.length ≤ sizeLine) :
    Inv X pins σ (upd H h'.objs.size (.frz { cls := .type "tuple", data := .seq us.toArray } (.tup xs))) { s with heap := h'.push { cls := .type "tuple", data := .seq us.toArray } } ∧ H h'.objs.size = none := by
  have I1 : Inv X pins σ H { s with heap := h' } := I.kept (t' := s.toks) kp
  refine ⟨I1.laid (t' := s.toks) (fun b u q => Heap.get?_push_of_some _ q) (Nat.le_refl _) ?_, I1.hok.fresh (Nat.le_refl _)⟩
  exact ⟨Heap.get?_push_size _ rfl, hz, us, rv, IsTup.new _ _⟩
def tTupF (t : TA) : TE := fun σ H Q => t σ H fun xs H1 => xs.length ≤ sizeLine ∧ ∀ p ob, H1 p = none → ob.dict = none → Q (.ref p) (upd H1 p (.frz ob (.tup xs)))
theorem pe_tupF {es : List Expr} {t : TA} {pos : Pos} {n : Nat} (h : PA X es t) : PE X (.Tuple es n pos) (tTupF t) := by
  refine ⟨fun pns st lo Hp0 Q J hq => ?_⟩
  refine wpAny_Tuple_spliced (thn (h.run pos pns st lo Hp0 _ J hq) fun us s1 ⟨ys, H1, I1, rv, hz, q⟩ => ⟨by rw [← rv.length]; exact hz, ?_⟩)
  obtain ⟨I2, hf⟩ := I1.layT (h' := s1.heap) (fun _ _ q => q) rv hz
  exact ⟨.ref s1.heap.objs.size, _, I2, rfl, q _ _ hf rfl⟩
/-- t + u -/
def rCatF (K : PySem.W.Frag) : R2 := fun x y H Q => ∃ a b xs ys, x = .ref a ∧ y = .ref b ∧ SqT K H a xs ∧ SqT K H b ys ∧ xs.length + ys.length ≤ sizeLine ∧
  (xs = [] → Q (.ref b) H) ∧ (xs ≠ [] → ys = [] → Q (.ref a) H) ∧ (xs ≠ [] → ys ≠ [] → ∀ p ob, H p = none → ob.dict = none → Q (.ref p) (upd H p (.frz ob (.tup (xs ++ ys)))))
theorem op_catF : OpR X (binaryOp .Add) (rCatF X.K) := by
  intro pns st lo Hp0 x y v u Q J rx ry h
  obtain ⟨a, b, xs, ys, rfl, rfl, ha, hb, hz, q0, q1, q2⟩ := h
  cases rx
  cases ry
  obtain ⟨ua, ra, pa, _⟩ := J.tuple ha
  obtain ⟨ub, rb, pb, _⟩ := J.tuple hb
  by_cases hx : xs = []
  · subst hx
    cases ra
    exact cat_tup0 pa pb ⟨.ref b, Hp0, J, rfl, q0 rfl⟩
  · refine HT.cat_tup pa pb (fun z => hx (ra.nil_iff.mp z)) (fun z => ⟨.ref a, Hp0, J, rfl, q1 hx (rb.nil_iff.mp z)⟩) (fun z => ?_) (by rw [← ra.length, ← rb.length]; exact hz)
    obtain ⟨I2, hf⟩ := J.layT (h' := st.heap) (fun _ _ q => q) (ra.append rb) (by rw [List.length_append]; exact hz)
    exact ⟨.ref st.heap.objs.size, _, I2, rfl, q2 hx (fun w => z (rb.nil_iff.mpr w)) _ _ hf rfl⟩
/-- t[lo:hi] -/
def rSlF (K : PySem.W.Frag) : V → Option Int → Option Int → Hp → VK → Prop := fun x lo hi H Q => ∃ a xs, x = .ref a ∧ SqT K H a xs ∧
  (HT.sIx xs.length 0 lo = 0 ∧ HT.sIx xs.length xs.length hi = xs.length → Q (.ref a) H) ∧ (¬ (HT.sIx xs.length 0 lo = 0 ∧ HT.sIx xs.length xs.length hi = xs.length) → ∀ p ob, H p = none → ob.dict = none → Q (.ref p) (upd H p (.frz ob (.tup (cutV xs lo hi)))))
theorem sl_tupF : SlR X (rSlF X.K) := by
  intro pns st lc Hp0 x v vl vu lo hi sl Q J rx hs pl pu h
  obtain ⟨a, xs, rfl, hx, q1, q2⟩ := h
  cases rx
  obtain ⟨us, rv, ht, hz⟩ := J.tuple hx
  have hsz : us.toArray.size = xs.length := by rw [List.size_toArray]; exact rv.length.symm
  refine ⟨"tuple", _, PyProof.Rows.slot_tuple_getitem.lookup, ht.typeIs, ?_⟩
  by_cases hw : HT.sIx xs.length 0 lo = 0 ∧ HT.sIx xs.length xs.length hi = xs.length
  · exact getItem_tuple_whole ht hs pl pu (by rw [hsz]; exact hw) ⟨.ref a, Hp0, J, rfl, q1 hw⟩
  · refine HT.getItem_tuple_cut ht hs pl pu (by rw [hsz]; exact hw) ?_ (by rw [hsz]; exact hz)
    rw [hsz]
    obtain ⟨I2, hf⟩ := J.layT (h' := st.heap) (fun _ _ q => q) ((rv.drop (HT.sIx xs.length 0 lo)).take (HT.sIx xs.length xs.length hi - HT.sIx xs.length 0 lo)) (Nat.le_trans (cutV_length xs lo hi) hz)
    exact ⟨.ref st.heap.objs.size, _, I2, rfl, q2 hw _ _ hf rfl⟩
/-- tuple(xs) -/
theorem call_tupF : CallR X (.type "tuple") (fun xs H Q => ∃ p ys, xs = [.ref p] ∧ ((SqL X.K H p ys ∧ ∀ l ob, H l = none → ob.dict = none → Q (.ref l) (upd H l (.frz ob (.tup ys)))) ∨ (SqT X.K H p ys ∧ Q (.ref p) H))) := by
  intro pns st lc Hp0 xs us Q J rv h
  obtain ⟨p, ys, rfl, h⟩ := h
  obtain ⟨u, rfl, ru⟩ := vals1 rv
  cases ru
  rcases h with ⟨hq, q⟩ | ⟨hq, q⟩
  · obtain ⟨ws, rw1, pl, hz⟩ := J.list hq
    have hwl := rw1.length
    refine call_tuple_list pl.isList (fun h' kp => ?_) (by rw [List.size_toArray, ← hwl]; exact hz)
    obtain ⟨I2, hf⟩ := J.layT kp rw1 hz
    exact ⟨.ref h'.objs.size, _, I2, rfl, q _ _ hf rfl⟩
  · obtain ⟨ws, _, pl, _⟩ := J.tuple hq
    exact call_tuple_same pl ⟨.ref p, Hp0, J, rfl, q⟩
/-- a method of a known tuple -/
def tTM (r : V → List V → Hp → VK → Prop) (to : TE) (t : TA) : TE := fun σ H Q => to σ H fun x H1 => (∃ p xs, x = .ref p ∧ TupK H1 p xs) ∧ t σ H1 fun xs H2 => r x xs H2 Q
theorem pe_tm {o e : Expr} {to : TE} {t : TA} {name : Str} {apos cpos : Pos} {id : String} {r : V → List V → Hp → VK → Prop} (slot : Slot "tuple" name id) (hty : typeOf (.builtin id) = pure (.type "method_descriptor")) (hm : MtR X id r) (ho : PE X o to) (ha : PA X [e] t)
    (hbase : attributeBase o name X.env (eval o X.env) = eval o X.env := by rfl)
    (hfew : ((backTo cpos (starEach [e] X.env)).all (fun x => !x.1) && (backToKw cpos (keywordEach [] X.env)).all (fun x => x.1.isSome)
      && decide (([e] : List Expr).length + ([] : List Keyword).length + (if ([] : List Keyword).isEmpty then 0 else 1) < 30)) = true := by rfl)
    (hline : (apos.endLine == cpos.line) = true := by rfl) (hs : starEach [e] X.env = (false, eval e X.env) :: starEach [] X.env := by rfl) (hplain : (backTo cpos (starEach [] X.env)).any (·.1) = false := by rfl) :
    PE X (.Call (.Attribute o name apos) [e] [] cpos) (tTM r to t) := by
  refine ⟨fun pns st lc Hp0 Q J h => ?_⟩
  refine wpAny_Call_method_late hbase hfew hline rfl (thn (ho.run pns st lc Hp0 _ J h) fun v s1 ⟨x, H1, I1, r1, kt, q1⟩ => ?_)
  obtain ⟨p, xs, rfl, ob, hob, hd⟩ := kt
  cases r1
  obtain ⟨hg, _, us, _, ob', hg', hc, _⟩ := I1.hok p _ hob
  have eob : ob' = ob := Option.some.inj (hg'.symm.trans hg)
  rw [eob] at hc
  refine ⟨"tuple", id, PySem.F.plainAttrs_tuple, slot, hty, ⟨ob, hg, hc⟩, (fun a ea => by cases ea; exact ⟨ob, hg, hd⟩), ?_⟩
  have hA := ha.run cpos pns s1 lc H1 _ I1 q1
  rw [hs] at hA ⊢
  refine Calls.callWith_builtin (by show (false || (backTo cpos (starEach [] X.env)).any (·.1)) = false; rw [hplain] <;> rfl) (Calls.evalArgs_plain ?_)
  exact thn hA fun ws s2 ⟨vs, H2, I2, r2, q2⟩ => hm pns s2 lc H2 (.ref p) vs _ ws Q I2 rfl r2 q2
end
end L2

/-! D-layer: data, their representation, the state of a frame in data. -/
namespace Ov
open PySem L2

/-- data -/
inductive D where
  | non | bl (b : Bool) | int (i : Int) | str (s : Str)
  | lst (ds : List D) | tup (ds : List D)
  | dk (kvs : List (Int × V)) | dp (kvs : List ((Int × Int) × Int))
  | arc (row : List Int) (turns : List (Int × Int)) (old : Int)
  | scr (ns : List Int)
  /-- a pair that may be a dict's key -/
  | pk (i j : Int)
  /-- an exception that was caught -/
  | exr (a : Addr)

/-- the law's fixed things: the written part, the class Arc; a call's: the heap at entry, the part of it that stays -/
structure Cc where
  K : PySem.W.Frag
  C : Addr
  H0 : Hp
  Hi : Hp

def Ex (H H' : Hp) : Prop := ∀ a o, H a = some o → H' a = some o
theorem _root_.L2.TupK.mono {H H' : Hp} {a : Addr} {xs : List V} (e : Ex H H') (h : TupK H a xs) : TupK H' a xs := by
  obtain ⟨ob, q, z⟩ := h
  exact ⟨ob, e _ _ q, z⟩
theorem Ex.refl (H : Hp) : Ex H H := fun _ _ h => h
theorem Ex.trans {H H1 H2 : Hp} (a : Ex H H1) (b : Ex H1 H2) : Ex H H2 := fun x o h => b x o (a x o h)
theorem Ex.new {H : Hp} {p : Addr} {o : HO} (h : H p = none) : Ex H (upd H p o) := fun a u e => by
  rw [upd_ne (ne_of_none e h)]; exact e
theorem Ex.none {H H' : Hp} (e : Ex H H') {p : Addr} (h : H' p = Option.none) : H p = Option.none := by
  cases q : H p with
  | none => rfl
  | some o => rw [e p o q] at h; cases h
theorem Ex.upd2 {H H' : Hp} {p : Addr} {o : HO} (e : Ex H H') : Ex (upd H p o) (upd H' p o) := fun a u h => by
  by_cases q : a = p
  · subst q; rw [upd_same] at h ⊢; exact h
  · rw [upd_ne q] at h ⊢; exact e a u h
theorem Ex.mut {H H' : Hp} {p : Addr} {o : HO} (e : Ex H H') (h : H p = Option.none) : Ex H (upd H' p o) := fun a u ha => by
  rw [upd_ne (ne_of_none ha h)]; exact e a u ha
theorem Ex.updL {H H' : Hp} {p : Addr} {o : HO} (e : Ex H H') (h : H' p = some o) : Ex (upd H p o) H' := fun a u ha => by
  by_cases q : a = p
  · subst q; rw [upd_same] at ha; rw [h]; exact ha
  · rw [upd_ne q] at ha; exact e a u ha

abbrev kkv (kvs : List (Int × V)) : List (Key × V) := kvs.map fun p => (Sum.inl p.1, p.2)
abbrev kpv (kvs : List ((Int × Int) × Int)) : List (List Key × V) := kvs.map fun p => ([Sum.inl p.1.1, Sum.inl p.1.2], V.int p.2)
abbrev iv (kvs : List (Int × Int)) : List (Int × V) := kvs.map fun p => (p.1, V.int p.2)
abbrev D.di (kvs : List (Int × Int)) : D := .dk (iv kvs)

mutual
inductive Re (K : PySem.W.Frag) (C : Addr) (H : Hp) : V → D → Prop
  | non : Re K C H .non .non
  | bl (b : Bool) : Re K C H (.bl b) (.bl b)
  | int (i : Int) : Re K C H (.int i) (.int i)
  | str (x : Str) : Re K C H (.str x) (.str x)
  | lst {a : Addr} {xs : List V} {ds : List D} : H a = some (.lst xs) → ReAll K C H xs ds → Re K C H (.ref a) (.lst ds)
  | tup {a : Addr} {xs : List V} {ds : List D} : TupK H a xs → ReAll K C H xs ds → Re K C H (.ref a) (.tup ds)
  | pk {a : Addr} {i j : Int} : H a = some (.tup [V.int i, V.int j]) → Re K C H (.ref a) (.pk i j)
  | exr (a : Addr) : Re K C H (.ref a) (.exr a)
  | dk {a : Addr} {kvs : List (Int × V)} : H a = some (.dK (kkv kvs)) → Re K C H (.ref a) (.dk kvs)
  | dp {a : Addr} {kvs : List ((Int × Int) × Int)} : H a = some (.dT (kpv kvs)) → Re K C H (.ref a) (.dp kvs)
  | arc {a dx p q : Addr} {row : List Int} {turns : List (Int × Int)} {n : Int} : H a = some (.ins C dx [("row", .ref p), ("turns", .ref q), ("old", .int n)]) → H p = some (.lst (row.map V.int)) →
      H q = some (.dK (kkv (iv turns))) → Re K C H (.ref a) (.arc row turns n)
  | scr {a : Addr} {ns : List Int} : SqL K H a (ns.map V.int) → Re K C H (.ref a) (.scr ns)
inductive ReAll (K : PySem.W.Frag) (C : Addr) (H : Hp) : List V → List D → Prop
  | nil : ReAll K C H [] []
  | cons {v : V} {vs : List V} {d : D} {ds : List D} : Re K C H v d → ReAll K C H vs ds → ReAll K C H (v :: vs) (d :: ds)
end

section
variable {K : PySem.W.Frag} {C : Addr} {H H' : Hp}
theorem Rd.mono {a : Addr} {u : HO} (e : Ex H H') (h : Rd H a u) : Rd H' a u := by
  rcases h with h | ⟨o, h⟩
  · exact .inl (e a _ h)
  · exact .inr ⟨o, e a _ h⟩
theorem sqL_mono {a : Addr} {xs : List V} (e : Ex H H') (h : SqL K H a xs) : SqL K H' a xs := by
  rcases h with h | h
  · exact .inl (Rd.mono e h)
  · exact .inr h
mutual
theorem Re.mono (e : Ex H H') : ∀ {v : V} {d : D}, Re K C H v d → Re K C H' v d
  | _, _, .non => .non
  | _, _, .bl b => .bl b
  | _, _, .int i => .int i
  | _, _, .str x => .str x
  | _, _, .lst h r => .lst (e _ _ h) (ReAll.mono e r)
  | _, _, .tup h r => .tup (h.mono e) (ReAll.mono e r)
  | _, _, .pk h => .pk (e _ _ h)
  | _, _, .exr a => .exr a
  | _, _, .dk h => .dk (e _ _ h)
  | _, _, .dp h => .dp (e _ _ h)
  | _, _, .arc h1 h2 h3 => .arc (e _ _ h1) (e _ _ h2) (e _ _ h3)
  | _, _, .scr h => .scr (sqL_mono e h)
theorem ReAll.mono (e : Ex H H') : ∀ {vs : List V} {ds : List D}, ReAll K C H vs ds → ReAll K C H' vs ds
  | _, _, .nil => .nil
  | _, _, .cons r s => .cons (Re.mono e r) (ReAll.mono e s)
end
theorem ReAll.length : ∀ {vs : List V} {ds : List D}, ReAll K C H vs ds → vs.length = ds.length
  | _, _, .nil => rfl
  | _, _, .cons _ s => congrArg (· + 1) (ReAll.length s)
theorem ReAll.get : ∀ {vs : List V} {ds : List D} {i : Nat} {d : D}, ReAll K C H vs ds → ds[i]? = some d → ∃ v, vs[i]? = some v ∧ Re K C H v d
  | _, _, _, _, .nil, h => by simp at h
  | _, _, 0, _, .cons r _, h => by simp at h; subst h; exact ⟨_, rfl, r⟩
  | _, _, i + 1, d, .cons _ s, h => by
    obtain ⟨v, h1, h2⟩ := ReAll.get (i := i) (d := d) s (by simpa using h)
    exact ⟨v, by simpa using h1, h2⟩
theorem ReAll.getV : ∀ {vs : List V} {ds : List D} {i : Nat} {v : V}, ReAll K C H vs ds → vs[i]? = some v → ∃ d, ds[i]? = some d ∧ Re K C H v d
  | _, _, _, _, .nil, h => by simp at h
  | _, _, 0, _, .cons r _, h => by simp at h; subst h; exact ⟨_, rfl, r⟩
  | _, _, i + 1, d, .cons _ s, h => by
    obtain ⟨v, h1, h2⟩ := ReAll.getV (i := i) (v := d) s (by simpa using h)
    exact ⟨v, by simpa using h1, h2⟩
theorem ReAll.append : ∀ {vs ws : List V} {ds es : List D}, ReAll K C H vs ds → ReAll K C H ws es → ReAll K C H (vs ++ ws) (ds ++ es)
  | _, _, _, _, .nil, s => s
  | _, _, _, _, .cons r t, s => .cons r (ReAll.append t s)
theorem ReAll.take : ∀ {vs : List V} {ds : List D} (n : Nat), ReAll K C H vs ds → ReAll K C H (vs.take n) (ds.take n)
  | _, _, 0, _ => by simpa using ReAll.nil
  | _, _, _ + 1, .nil => .nil
  | _, _, n + 1, .cons r t => .cons r (ReAll.take n t)
theorem ReAll.drop : ∀ {vs : List V} {ds : List D} (n : Nat), ReAll K C H vs ds → ReAll K C H (vs.drop n) (ds.drop n)
  | _, _, 0, r => r
  | _, _, _ + 1, .nil => .nil
  | _, _, n + 1, .cons _ t => ReAll.drop n t
theorem ReAll.reverse : ∀ {vs : List V} {ds : List D}, ReAll K C H vs ds → ReAll K C H vs.reverse ds.reverse
  | _, _, .nil => .nil
  | _, _, .cons r t => by
    rw [List.reverse_cons, List.reverse_cons]
    exact (ReAll.reverse t).append (.cons r .nil)
theorem ReAll.ints : ∀ {ns : List Int}, ReAll K C H (ns.map V.int) (ns.map D.int)
  | [] => .nil
  | n :: r => .cons (.int n) (ReAll.ints (ns := r))
theorem ReAll.ints_inv : ∀ {vs : List V} {ns : List Int}, ReAll K C H vs (ns.map D.int) → vs = ns.map V.int
  | _, [], h => by cases h; rfl
  | _, n :: r, h => by
    cases h with
    | cons r1 r2 =>
      cases r1
      rw [ReAll.ints_inv r2]; rfl
end

/-- what needs no heap -/
def isAt : D → Bool
  | .non => true | .bl _ => true | .int _ => true | .str _ => true | _ => false
theorem Re.atom {K : PySem.W.Frag} {C : Addr} {H H' : Hp} {v : V} {d : D} (a : isAt d = true) (h : Re K C H v d) : Re K C H' v d := by
  cases h <;> first | (cases a; done) | (constructor; done)

/-! ### the state -/
structure G where
  own : Addr → Option Nat
  b : Hp
  h : Hp
/-- what a slot holds: nothing known; data that stay; data of the caller's; a thing of one's own that may change -/
inductive Sl where
  | any | val (d : D) | bor (d : D) | own (d : D)

/-- an address of one's own -/
structure Ow (c : Cc) (S : G) (o : Option Nat) (p : Addr) : Prop where
  own : S.own p = o
  b : S.b p = none
  h0 : c.H0 p = none

/-- a thing of one's own: of the slot i, or fresh (none) -/
inductive ReO (c : Cc) (S : G) (o : Option Nat) : V → D → Prop
  | lst {p : Addr} {xs : List V} {ds : List D} : Ow c S o p → S.h p = some (.lst xs) → ReAll c.K c.C S.b xs ds → ReO c S o (.ref p) (.lst ds)
  | dk {p : Addr} {kvs : List (Int × V)} : Ow c S o p → S.h p = some (.dK (kkv kvs)) → ReO c S o (.ref p) (.dk kvs)
  | dp {p : Addr} {kvs : List ((Int × Int) × Int)} : Ow c S o p → S.h p = some (.dT (kpv kvs)) → ReO c S o (.ref p) (.dp kvs)
  | arc {a dx p q : Addr} {row : List Int} {turns : List (Int × Int)} {n : Int} : Ow c S o a → Ow c S o dx → Ow c S o p → Ow c S o q → S.h dx = some (.own a) →
      S.h a = some (.ins c.C dx [("row", .ref p), ("turns", .ref q), ("old", .int n)]) → S.h p = some (.lst (row.map V.int)) → S.h q = some (.dK (kkv (iv turns))) → ReO c S o (.ref a) (.arc row turns n)

def SlOk (c : Cc) (S : G) (σ : St) (i : Nat) : Sl → Prop
  | .any => True
  | .val d => ∃ v, σ[i]? = some (some v) ∧ Re c.K c.C S.b v d
  | .bor d => ∃ v, σ[i]? = some (some v) ∧ Re c.K c.C c.H0 v d
  | .own d => ∃ v, σ[i]? = some (some v) ∧ ReO c S (some i) v d

structure GoodH (c : Cc) (S : G) : Prop where
  ex0 : Ex c.H0 S.h
  exb : Ex S.b S.h
  exi : Ex c.Hi S.b
  fr : ∀ p, c.Hi p = none → c.H0 p ≠ none → S.b p = none
structure Good (c : Cc) (S : G) (σ : St) (δ : List Sl) : Prop extends GoodH c S where
  len : σ.length = δ.length
  sl : ∀ i s, δ[i]? = some s → SlOk c S σ i s

/-- the state grows: nothing that stood is changed; what is fresh may come to stay -/
structure Le (c : Cc) (S S' : G) : Prop where
  b : Ex S.b S'.b
  h : Ex S.h S'.h
  own : ∀ p, S.h p ≠ none → S'.own p = S.own p
  nb : ∀ p, S.h p ≠ none → S.b p = none → (S.own p ≠ none ∨ c.H0 p ≠ none) → S'.b p = none
theorem Le.refl (c : Cc) (S : G) : Le c S S := ⟨Ex.refl _, Ex.refl _, fun _ _ => rfl, fun _ _ h _ => h⟩
theorem Le.trans {c : Cc} {S S1 S2 : G} (a : Le c S S1) (b : Le c S1 S2) : Le c S S2 := by
  have ne : ∀ p, S.h p ≠ none → S1.h p ≠ none := fun p h e => h (a.h.none e)
  exact ⟨a.b.trans b.b, a.h.trans b.h, fun p h => (b.own p (ne p h)).trans (a.own p h), fun p h q w => b.nb p (ne p h) (a.nb p h q w) (by rw [a.own p h]; exact w)⟩

theorem ne_some {H : Hp} {p : Addr} {o : HO} (h : H p = some o) : H p ≠ none := by rw [h]; exact fun z => by cases z

theorem Ow.le {c : Cc} {S S' : G} {i : Nat} {p : Addr} (l : Le c S S') (hp : S.h p ≠ none) (w : Ow c S (some i) p) : Ow c S' (some i) p :=
  ⟨(l.own p hp).trans w.own, l.nb p hp w.b (.inl (by rw [w.own]; exact fun z => by cases z)), w.h0⟩
theorem ReO.le {c : Cc} {S S' : G} {i : Nat} {v : V} {d : D} (l : Le c S S') (r : ReO c S (some i) v d) : ReO c S' (some i) v d := by
  cases r with
  | lst w h r => exact .lst (w.le l (ne_some h)) (l.h _ _ h) (r.mono l.b)
  | dk w h => exact .dk (w.le l (ne_some h)) (l.h _ _ h)
  | dp w h => exact .dp (w.le l (ne_some h)) (l.h _ _ h)
  | arc w1 w2 w3 w4 h0 h1 h2 h3 =>
    exact .arc (w1.le l (ne_some h1)) (w2.le l (ne_some h0)) (w3.le l (ne_some h2)) (w4.le l (ne_some h3)) (l.h _ _ h0) (l.h _ _ h1) (l.h _ _ h2) (l.h _ _ h3)

/-- how a value bears data -/
inductive Mo where
  | val | old | sh | bor | fr
  deriving DecidableEq

/-- its place may change, what lies within stays -/
inductive ReS (K : PySem.W.Frag) (C : Addr) (S : G) : V → D → Prop
  | lst {a : Addr} {xs : List V} {ds : List D} : S.h a = some (.lst xs) → ReAll K C S.b xs ds → ReS K C S (.ref a) (.lst ds)
  | of {v : V} {d : D} : Re K C S.b v d → ReS K C S v d
  | dk {a : Addr} {kvs : List (Int × V)} : S.h a = some (.dK (kkv kvs)) → ReS K C S (.ref a) (.dk kvs)
  | dp {a : Addr} {kvs : List ((Int × Int) × Int)} : S.h a = some (.dT (kpv kvs)) → ReS K C S (.ref a) (.dp kvs)
  | arc {v : V} {row : List Int} {turns : List (Int × Int)} {n : Int} : Re K C S.h v (.arc row turns n) → ReS K C S v (.arc row turns n)

def ReM (c : Cc) (S : G) : Mo → V → D → Prop
  | .val, v, d => Re c.K c.C S.b v d
  | .old, v, d => Re c.K c.C c.H0 v d
  | .sh, v, d => ReS c.K c.C S v d
  | .bor, v, d => Re c.K c.C S.h v d
  | .fr, v, d => ReO c S none v d
theorem ReS.le {c : Cc} {K : PySem.W.Frag} {C : Addr} {S S' : G} {v : V} {d : D} (l : Le c S S') (r : ReS K C S v d) : ReS K C S' v d := by
  cases r with
  | lst h r => exact .lst (l.h _ _ h) (r.mono l.b)
  | of r => exact .of (r.mono l.b)
  | dk h => exact .dk (l.h _ _ h)
  | dp h => exact .dp (l.h _ _ h)
  | arc h => exact .arc (h.mono l.h)
/-- fresh things are read as things of one's own -/
def nf : Mo → Mo
  | .fr => .sh | m => m
theorem ReM.nf {c : Cc} {S : G} {m : Mo} {v : V} {d : D} (r : ReM c S m v d) : ReM c S (nf m) v d := by
  cases m with
  | fr =>
    have r : ReO c S none v d := r
    show ReS c.K c.C S v d
    cases r with
    | lst w h q => exact .lst h q
    | dk w h => exact .dk h
    | dp w h => exact .dp h
    | arc w1 w2 w3 w4 h0 h1 h2 h3 => exact .arc (.arc h1 h2 h3)
  | _ => exact r
theorem ReM.le {c : Cc} {S S' : G} {m : Mo} {v : V} {d : D} (l : Le c S S') (r : ReM c S (Ov.nf m) v d) : ReM c S' (Ov.nf m) v d := by
  cases m with
  | val => exact Re.mono l.b r
  | old => exact r
  | sh => exact ReS.le l r
  | bor => exact Re.mono l.h r
  | fr => exact ReS.le l r

theorem GoodH.le {c : Cc} {S S' : G} (g : GoodH c S) (l : Le c S S') (e : Ex S'.b S'.h) : GoodH c S' where
  ex0 := g.ex0.trans l.h
  exb := e
  exi := g.exi.trans l.b
  fr := fun p h1 h2 => l.nb p (fun z => h2 (g.ex0.none z)) (g.fr p h1 h2) (.inr h2)
theorem SlOk.le {c : Cc} {S S' : G} {σ : St} {i : Nat} {s : Sl} (l : Le c S S') (r : SlOk c S σ i s) : SlOk c S' σ i s := by
  cases s with
  | any => exact r
  | val d => obtain ⟨v, h, q⟩ := r; exact ⟨v, h, q.mono l.b⟩
  | bor d => exact r
  | own d => obtain ⟨v, h, q⟩ := r; exact ⟨v, h, q.le l⟩
theorem Good.le {c : Cc} {S S' : G} {σ : St} {δ : List Sl} (g : Good c S σ δ) (l : Le c S S') (e : Ex S'.b S'.h) : Good c S' σ δ where
  toGoodH := g.toGoodH.le l e
  len := g.len
  sl := fun i s h => (g.sl i s h).le l

/-- a new thing that stays -/
def G.add (S : G) (p : Addr) (o : HO) : G := ⟨fun q => if q = p then none else S.own q, upd S.b p o, upd S.h p o⟩
/-- a new thing of one's own -/
def G.addO (S : G) (p : Addr) (o : HO) : G := ⟨fun q => if q = p then none else S.own q, S.b, upd S.h p o⟩
theorem Le.add {c : Cc} {S : G} {p : Addr} {o : HO} (eb : Ex S.b S.h) (h : S.h p = none) : Le c S (S.add p o) :=
  ⟨Ex.new (eb.none h), Ex.new h, fun q hq => if_neg fun z => hq (by rw [z]; exact h), fun q hq hb _ => by
    show upd S.b p o q = none
    rw [upd_ne (fun z => hq (by rw [z]; exact h))]; exact hb⟩
theorem Le.addO {c : Cc} {S : G} {p : Addr} {o : HO} (h : S.h p = none) : Le c S (S.addO p o) :=
  ⟨Ex.refl _, Ex.new h, fun q hq => if_neg fun z => hq (by rw [z]; exact h), fun q hq hb _ => hb⟩
/-- what is fresh comes to stay -/
def G.keep (S : G) (p : Addr) (o : HO) : G := ⟨S.own, upd S.b p o, S.h⟩
section
variable {c : Cc} {S : G} {σ : St} {δ : List Sl} {p : Addr} {o : HO}
theorem Good.add (g : Good c S σ δ) (h : S.h p = none) : Good c (S.add p o) σ δ := g.le (Le.add g.exb h) g.exb.upd2
theorem Good.addO (g : Good c S σ δ) (h : S.h p = none) : Good c (S.addO p o) σ δ := g.le (Le.addO h) (g.exb.trans (Ex.new h))
theorem Good.owNew (g : Good c S σ δ) (h : S.h p = none) : Ow c (S.addO p o) none p := ⟨if_pos rfl, g.exb.none h, g.ex0.none h⟩
theorem Le.keep (w : Ow c S none p) : Le c S (S.keep p o) := ⟨Ex.new w.b, Ex.refl _, fun _ _ => rfl, fun q hq hb hw => by
  show upd S.b p o q = none
  rw [upd_ne (fun z => by subst z; exact hw.elim (fun k => k w.own) fun k => k w.h0)]; exact hb⟩
theorem Good.keep (g : Good c S σ δ) (w : Ow c S none p) (h : S.h p = some o) : Good c (S.keep p o) σ δ := g.le (Le.keep w) (g.exb.updL h)
theorem Ow.keep {q : Addr} (w : Ow c S none q) (h : q ≠ p) : Ow c (S.keep p o) none q := ⟨w.own, (upd_ne h).trans w.b, w.h0⟩
/-- what is fresh may stay -/
theorem Good.toVal {v : V} {d : D} (g : Good c S σ δ) (r : ReO c S none v d) : ∃ S', S'.h = S.h ∧ Le c S S' ∧ Good c S' σ δ ∧ Re c.K c.C S'.b v d := by
  cases r with
  | @lst p xs ds w h r => exact ⟨S.keep p (.lst xs), rfl, Le.keep w, g.keep w h, .lst upd_same (r.mono (Ex.new w.b))⟩
  | @dk p kvs w h => exact ⟨S.keep p (.dK (kkv kvs)), rfl, Le.keep w, g.keep w h, .dk upd_same⟩
  | @dp p kvs w h => exact ⟨S.keep p (.dT (kpv kvs)), rfl, Le.keep w, g.keep w h, .dp upd_same⟩
  | @arc a dx p q row turns n w1 w2 w3 w4 h0 h1 h2 h3 =>
    have n1 : p ≠ a := ne_of h2 h1 (by intro z; cases z)
    have n2 : q ≠ a := ne_of h3 h1 (by intro z; cases z)
    have n3 : q ≠ p := ne_of h3 h2 (by intro z; cases z)
    have g1 := g.keep w1 h1
    have w3' := w3.keep (o := .ins c.C dx [("row", .ref p), ("turns", .ref q), ("old", .int n)]) n1
    have g2 := g1.keep w3' h2
    have w4' := (w4.keep (o := .ins c.C dx [("row", .ref p), ("turns", .ref q), ("old", .int n)]) n2).keep (o := .lst (row.map V.int)) n3
    have g3 := g2.keep w4' h3
    refine ⟨((S.keep a (.ins c.C dx [("row", .ref p), ("turns", .ref q), ("old", .int n)])).keep p (.lst (row.map V.int))).keep q (.dK (kkv (iv turns))), rfl, ((Le.keep w1).trans (Le.keep w3')).trans (Le.keep w4'), g3, .arc (dx := dx) (p := p) (q := q) ?_ ?_ upd_same⟩
    · show upd (upd (upd S.b a _) p _) q _ a = _
      rw [upd_ne n2.symm, upd_ne n1.symm, upd_same]
    · show upd (upd (upd S.b a _) p _) q _ p = _
      rw [upd_ne n3.symm, upd_same]
end
end Ov

/-! D-layer: judgements, expressions. -/
namespace Ov
open PySem L2

def tE (c : Cc) (m : Mo) (δ : List Sl) (d : D) : TE := fun σ H Q => ∃ S, S.h = H ∧ Good c S σ δ ∧ ∀ v S', Le c S S' → Good c S' σ δ → ReM c S' m v d → Q v S'.h
def tT (c : Cc) (δ : List Sl) (b : Bool) : TT := fun σ H Q => ∃ S, S.h = H ∧ Good c S σ δ ∧ ∀ S', Le c S S' → Good c S' σ δ → Q b S'.h
inductive ReMs (c : Cc) (S : G) : List (Mo × D) → List V → Prop
  | nil : ReMs c S [] []
  | cons {m : Mo} {d : D} {v : V} {l : List (Mo × D)} {vs : List V} : ReM c S m v d → ReMs c S l vs → ReMs c S ((m, d) :: l) (v :: vs)
def tA (c : Cc) (δ : List Sl) (l : List (Mo × D)) : TA := fun σ H Q => ∃ S, S.h = H ∧ Good c S σ δ ∧ ∀ vs S', Le c S S' → Good c S' σ δ → ReMs c S' l vs → Q vs S'.h

structure DE (X : Cx) (c : Cc) (m : Mo) (δ : List Sl) (e : Expr) (d : D) : Prop where
  k : X.K = c.K
  pe : PE X e (tE c m δ d)
structure DT (X : Cx) (c : Cc) (δ : List Sl) (e : Expr) (b : Bool) : Prop where
  k : X.K = c.K
  pt : PT X e (tT c δ b)
structure DA (X : Cx) (c : Cc) (δ : List Sl) (es : List Expr) (l : List (Mo × D)) : Prop where
  k : X.K = c.K
  pa : PA X es (tA c δ l)

theorem PE.imp {X : Cx} {e : Expr} {t t' : TE} (h : PE X e t) (i : ∀ σ H Q, t' σ H Q → t σ H Q) : PE X e t' := ⟨fun pins s σ H Q I w => h.run pins s σ H Q I (i σ H Q w)⟩
theorem PT.imp {X : Cx} {e : Expr} {t t' : TT} (h : PT X e t) (i : ∀ σ H Q, t' σ H Q → t σ H Q) : PT X e t' := ⟨fun pins s σ H Q I w => h.run pins s σ H Q I (i σ H Q w)⟩
theorem PA.imp {X : Cx} {es : List Expr} {t t' : TA} (h : PA X es t) (i : ∀ σ H Q, t' σ H Q → t σ H Q) : PA X es t' := ⟨fun pos pins s σ H Q I w => h.run pos pins s σ H Q I (i σ H Q w)⟩

def canVal : Mo → D → Bool
  | .val, _ => true
  | .fr, _ => true
  | _, d => isAt d
def canSh : Mo → D → Bool
  | .val, _ => true
  | .fr, _ => true
  | .sh, _ => true
  | _, d => isAt d

section
variable {c : Cc} {S : G} {σ : St} {δ : List Sl} {m : Mo} {v : V} {d : D}
theorem ReM.at (r : ReM c S m v d) (a : isAt d = true) {K : PySem.W.Frag} (k : c.K = K) {H : Hp} : Re K c.C H v d := by
  subst k
  cases m with
  | val => exact Re.atom a r
  | old => exact Re.atom a r
  | bor => exact Re.atom a r
  | sh =>
    have r : ReS c.K c.C S v d := r
    cases r with
    | of r => exact Re.atom a r
    | _ => cases a
  | fr =>
    have r : ReO c S none v d := r
    cases r <;> cases a
theorem ReM.val (r : ReM c S m v d) (a : isAt d = true) : ReM c S .val v d := r.at a rfl
theorem ReM.intI {i : Int} (r : ReM c S m v (.int i)) : v = .int i := by
  have h := r.at (H := S.b) rfl rfl
  cases h; rfl
theorem ReM.blI {i : Bool} (r : ReM c S m v (.bl i)) : v = .bl i := by
  have h := r.at (H := S.b) rfl rfl
  cases h; rfl
theorem ReM.strI {i : Str} (r : ReM c S m v (.str i)) : v = .str i := by
  have h := r.at (H := S.b) rfl rfl
  cases h; rfl
theorem ReM.nonI (r : ReM c S m v .non) : v = .non := by
  have h := r.at (H := S.b) rfl rfl
  cases h; rfl
theorem Good.mkVal (g : Good c S σ δ) (r : ReM c S m v d) (h : canVal m d = true) : ∃ S', S'.h = S.h ∧ Le c S S' ∧ Good c S' σ δ ∧ Re c.K c.C S'.b v d := by
  cases m with
  | val => exact ⟨S, rfl, Le.refl c S, g, r⟩
  | fr => exact g.toVal r
  | old => exact ⟨S, rfl, Le.refl c S, g, r.at h rfl⟩
  | sh => exact ⟨S, rfl, Le.refl c S, g, r.at h rfl⟩
  | bor => exact ⟨S, rfl, Le.refl c S, g, r.at h rfl⟩
/-- read where it stands -/
theorem ReS.now {K : PySem.W.Frag} {C : Addr} (e : Ex S.b S.h) (r : ReS K C S v d) : Re K C S.h v d := by
  cases r with
  | lst h q => exact .lst h (q.mono e)
  | of q => exact q.mono e
  | dk h => exact .dk h
  | dp h => exact .dp h
  | arc h => exact h
theorem Good.now (g : GoodH c S) (r : ReM c S m v d) : Re c.K c.C S.h v d := by
  cases m with
  | val => exact Re.mono g.exb r
  | old => exact Re.mono g.ex0 r
  | bor => exact r
  | sh => exact ReS.now g.exb r
  | fr => exact ReS.now g.exb (ReM.nf (m := .fr) r)
theorem Good.sh (r : ReM c S m v d) (h : canSh m d = true) : ReS c.K c.C S v d := by
  cases m with
  | val => exact .of r
  | sh => exact r
  | fr => exact ReM.nf (m := .fr) r
  | old => exact .of (r.at h rfl)
  | bor => exact .of (r.at h rfl)
end

section
variable {X : Cx} {c : Cc} {δ : List Sl} {m m1 m2 m3 : Mo} {a b e : Expr} {d d1 d2 d3 : D} {pos : Pos}
/-- another way of bearing it -/
theorem DE.to {m' : Mo} (h : DE X c m δ e d) (i : ∀ S σ v, Good c S σ δ → ReM c S m v d → ∃ S', S'.h = S.h ∧ Le c S S' ∧ Good c S' σ δ ∧ ReM c S' m' v d) : DE X c m' δ e d :=
  ⟨h.k, PE.imp h.pe fun σ H Q ⟨S, e, g, q⟩ => ⟨S, e, g, fun v S1 l g1 r => by
    obtain ⟨S2, e2, l2, g2, r2⟩ := i S1 σ v g1 r
    rw [← e2]
    exact q v S2 (l.trans l2) g2 r2⟩⟩
theorem DE.val (h : DE X c m δ e d) (a : canVal m d = true) : DE X c .val δ e d := h.to fun S σ v g r => g.mkVal r a
theorem DE.bor (h : DE X c m δ e d) : DE X c .bor δ e d := h.to fun S σ v g r => ⟨S, rfl, Le.refl c S, g, Good.now g.toGoodH r⟩
theorem DE.sh (h : DE X c m δ e d) (a : canSh m d = true) : DE X c .sh δ e d := h.to fun S σ v g r => ⟨S, rfl, Le.refl c S, g, Good.sh r a⟩
theorem DE.nf (h : DE X c m δ e d) : DE X c (nf m) δ e d := h.to fun S σ v g r => ⟨S, rfl, Le.refl c S, g, r.nf⟩
theorem DE.cast (h : DE X c m δ e d) (q : d = d1) : DE X c m δ e d1 := q ▸ h
theorem DT.cast {b b' : Bool} (h : DT X c δ e b) (q : b = b') : DT X c δ e b' := q ▸ h

/-- behind an expression: a value that needs nothing of the heap -/
theorem DE.mkE (k : X.K = c.K) {t : TE} (h : PE X e t) (i : ∀ S σ, Good c S σ δ → ∀ Q : VK, (∀ v S', Le c S S' → Good c S' σ δ → ReM c S' m v d → Q v S'.h) → t σ S.h Q) : DE X c m δ e d :=
  ⟨k, PE.imp h fun σ H Q ⟨S, e, g, q⟩ => by subst e; exact i S σ g Q q⟩
theorem DT.mkE (k : X.K = c.K) {t : TT} {b : Bool} (h : PT X e t) (i : ∀ S σ, Good c S σ δ → ∀ Q : Bool → Hp → Prop, (∀ S', Le c S S' → Good c S' σ δ → Q b S'.h) → t σ S.h Q) : DT X c δ e b :=
  ⟨k, PT.imp h fun σ H Q ⟨S, e, g, q⟩ => by subst e; exact i S σ g Q q⟩

/-! ### names, constants -/
def slMo : Sl → Mo
  | .any => .bor | .val _ => .val | .bor _ => .old | .own _ => .sh
def slD : Sl → D
  | .any => .non | .val d => d | .bor d => d | .own d => d
theorem Good.get {S : G} {σ : St} {i : Nat} {s : Sl} (g : Good c S σ δ) (h : δ[i]? = some s) (ha : s ≠ .any) : ∃ v, σ[i]? = some (some v) ∧ ReM c S (slMo s) v (slD s) := by
  have q := g.sl i s h
  cases s with
  | any => exact absurd rfl ha
  | val d => exact q
  | bor d => exact q
  | own d =>
    obtain ⟨v, h1, h2⟩ := q
    refine ⟨v, h1, ?_⟩
    show ReS c.K c.C S v d
    cases h2 with
    | lst w e r => exact .lst e r
    | dk w e => exact .dk e
    | dp w e => exact .dp e
    | arc w1 w2 w3 w4 e0 e1 e2 e3 => exact .arc (.arc e1 e2 e3)
theorem de_name {i : Nat} {x : Str} {s : Sl} (k : X.K = c.K) (hN : X.N[i]? = some x) (hv : Vis X.env.scope x) (hs : δ[i]? = some s) (ha : s ≠ .any) (hd : (x == ("__debug__" : Str)) = false := by decide)
    (hcd : (x == ("__classdict__" : Str)) = false := by decide) : DE X c (slMo s) δ (.Name x pos) (slD s) :=
  DE.mkE k (pe_var hN hv hd hcd) fun S σ g Q q => by
    obtain ⟨v, h1, h2⟩ := g.get hs ha
    exact ⟨v, h1, q v S (Le.refl c S) g h2⟩
theorem de_val {i : Nat} {x : Str} (k : X.K = c.K) (hN : X.N[i]? = some x) (hv : Vis X.env.scope x) (hs : δ[i]? = some (.val d)) (hd : (x == ("__debug__" : Str)) = false := by decide)
    (hcd : (x == ("__classdict__" : Str)) = false := by decide) : DE X c .val δ (.Name x pos) d := de_name (s := .val d) k hN hv hs (by intro z; cases z) hd hcd
theorem de_old {i : Nat} {x : Str} (k : X.K = c.K) (hN : X.N[i]? = some x) (hv : Vis X.env.scope x) (hs : δ[i]? = some (.bor d)) (hd : (x == ("__debug__" : Str)) = false := by decide)
    (hcd : (x == ("__classdict__" : Str)) = false := by decide) : DE X c .old δ (.Name x pos) d := de_name (s := .bor d) k hN hv hs (by intro z; cases z) hd hcd
theorem de_own {i : Nat} {x : Str} (k : X.K = c.K) (hN : X.N[i]? = some x) (hv : Vis X.env.scope x) (hs : δ[i]? = some (.own d)) (hd : (x == ("__debug__" : Str)) = false := by decide)
    (hcd : (x == ("__classdict__" : Str)) = false := by decide) : DE X c .sh δ (.Name x pos) d := de_name (s := .own d) k hN hv hs (by intro z; cases z) hd hcd
theorem de_int {i : Int} {j} (k : X.K = c.K) : DE X c .val δ (.Constant (.int i) j pos) (.int i) := DE.mkE k pe_int fun S σ g Q q => q _ S (Le.refl c S) g (.int i)
theorem de_bl {i : Bool} {j} (k : X.K = c.K) : DE X c .val δ (.Constant (.bool i) j pos) (.bl i) := DE.mkE k pe_bl fun S σ g Q q => q _ S (Le.refl c S) g (.bl i)
theorem de_non {j} (k : X.K = c.K) : DE X c .val δ (.Constant .none j pos) .non := DE.mkE k pe_non fun S σ g Q q => q _ S (Le.refl c S) g .non
theorem de_str {i : Str} {j} (k : X.K = c.K) : DE X c .val δ (.Constant (.str i) j pos) (.str i) := DE.mkE k pe_str fun S σ g Q q => q _ S (Le.refl c S) g (.str i)
/-- a module's int -/
theorem de_globI {x : Str} {i : Int} {t : Tok} (k : X.K = c.K) (hg : Gl X x) (hm : X.mg x = some (.int i t)) (hd : (x == ("__debug__" : Str)) = false := by decide) : DE X c .val δ (.Name x pos) (.int i) :=
  DE.mkE k (pe_glob (v := .int i) hg hm ⟨t, rfl⟩ hd) fun S σ g Q q => q _ S (Le.refl c S) g (.int i)

/-! ### operators -/
/-- f on two values that bear data -/
def Op2 (X : Cx) (c : Cc) (f : Value → Value → Sem Value) (m1 : Mo) (d1 : D) (m2 : Mo) (d2 : D) (m : Mo) (d : D) : Prop :=
  ∃ r : R2, OpR X f r ∧ ∀ δ S σ x y, Good c S σ δ → ReM c S m1 x d1 → ReM c S m2 y d2 → ∀ Q : VK, (∀ v S', Le c S S' → Good c S' σ δ → ReM c S' m v d → Q v S'.h) → r x y S.h Q
theorem de_bin {op : Operator} (ha : DE X c m1 δ a d1) (hb : DE X c m2 δ b d2) (ho : Op2 X c (binaryOp op) (nf m1) d1 (nf m2) d2 m d) : DE X c m δ (.BinOp a op b pos) d := by
  obtain ⟨r, hr, hq⟩ := ho
  exact DE.mkE ha.k (pe_op hr ha.nf.pe hb.nf.pe) fun S σ g Q q => ⟨S, rfl, g, fun x S1 l1 g1 r1 => ⟨S1, rfl, g1, fun y S2 l2 g2 r2 =>
    hq δ S2 σ x y g2 (ReM.le l2 r1) r2 Q fun v S3 l3 g3 r3 => q v S3 ((l1.trans l2).trans l3) g3 r3⟩⟩
theorem de_cmp {op : CmpOp} (ha : DE X c m1 δ a d1) (hb : DE X c m2 δ b d2) (ho : Op2 X c (compareOp op) (nf m1) d1 (nf m2) d2 m d) (hm : behindInMarks op b = false) : DE X c m δ (.Compare a [op] [b] pos) d := by
  obtain ⟨r, hr, hq⟩ := ho
  exact DE.mkE ha.k (pe_cmpR hr ha.nf.pe hb.nf.pe hm) fun S σ g Q q => ⟨S, rfl, g, fun x S1 l1 g1 r1 => ⟨S1, rfl, g1, fun y S2 l2 g2 r2 =>
    hq δ S2 σ x y g2 (ReM.le l2 r1) r2 Q fun v S3 l3 g3 r3 => q v S3 ((l1.trans l2).trans l3) g3 r3⟩⟩
theorem dt_cmp {op : CmpOp} {k : Bool} (ha : DE X c m1 δ a d1) (hb : DE X c m2 δ b d2) (ho : Op2 X c (compareOp op) (nf m1) d1 (nf m2) d2 .val (.bl k)) (hm : behindInMarks op b = false) : DT X c δ (.Compare a [op] [b] pos) k := by
  obtain ⟨r, hr, hq⟩ := ho
  exact DT.mkE ha.k (pt_cmpR hr ha.nf.pe hb.nf.pe hm) fun S σ g Q q => ⟨S, rfl, g, fun x S1 l1 g1 r1 => ⟨S1, rfl, g1, fun y S2 l2 g2 r2 =>
    hq δ S2 σ x y g2 (ReM.le l2 r1) r2 _ fun v S3 l3 g3 r3 => ⟨k, ReM.blI r3, q S3 ((l1.trans l2).trans l3) g3⟩⟩⟩
/-- a test that is a truth -/
theorem dt_val {k : Bool} (h : DE X c m δ e (.bl k)) (he : ∀ whole, isTrue e X.env whole = (do let v ← whole; standAt e.pos; holding [v] (truthy v)) := by intro _; rfl) : DT X c δ e k :=
  DT.mkE h.k (pt_val h.pe he) fun S σ g Q q => ⟨S, rfl, g, fun v S1 l1 g1 r1 => ⟨k, ReM.blI r1, q S1 l1 g1⟩⟩
end

section
variable {X : Cx} {c : Cc} {m1 m2 : Mo}
theorem op2_I0 {f : Value → Value → Sem Value} {g : Int → Int → V} {g' : Int → Int → D} (ho : OpR X f (rI0 g)) (hg : ∀ i j K C H, Re K C H (g i j) (g' i j)) {i j : Int} : Op2 X c f m1 (.int i) m2 (.int j) .val (g' i j) :=
  ⟨_, ho, fun δ S σ x y G r1 r2 Q q => ⟨i, j, r1.intI, r2.intI, q _ S (Le.refl c S) G (hg i j c.K c.C S.b)⟩⟩
theorem op2_I {f : Value → Value → Sem Value} {Cd : Int → Int → Prop} {g : Int → Int → V} {g' : Int → Int → D} (ho : OpR X f (rI Cd g)) (hg : ∀ i j K C H, Re K C H (g i j) (g' i j)) {i j : Int} (hc : Cd i j) : Op2 X c f m1 (.int i) m2 (.int j) .val (g' i j) :=
  ⟨_, ho, fun δ S σ x y G r1 r2 Q q => ⟨i, j, r1.intI, r2.intI, hc, q _ S (Le.refl c S) G (hg i j c.K c.C S.b)⟩⟩
variable {i j : Int}
theorem o_add : Op2 X c (binaryOp .Add) m1 (.int i) m2 (.int j) .val (.int (i + j)) := op2_I0 (g' := fun i j => .int (i + j)) op_add fun _ _ _ _ _ => .int _
theorem o_sub : Op2 X c (binaryOp .Sub) m1 (.int i) m2 (.int j) .val (.int (i - j)) := op2_I0 (g' := fun i j => .int (i - j)) op_sub fun _ _ _ _ _ => .int _
theorem o_mul (h : (-(2 ^ 64) < i ∧ i < 2 ^ 64) ∨ (-(2 ^ 64) < j ∧ j < 2 ^ 64)) : Op2 X c (binaryOp .Mult) m1 (.int i) m2 (.int j) .val (.int (i * j)) := op2_I (g' := fun i j => .int (i * j)) op_mul (fun _ _ _ _ _ => .int _) h
theorem o_div (h : 0 < j ∧ j < 1073741824) : Op2 X c (binaryOp .FloorDiv) m1 (.int i) m2 (.int j) .val (.int (i / j)) := op2_I (g' := fun i j => .int (i / j)) op_fdiv (fun _ _ _ _ _ => .int _) h
theorem o_mod (h : 0 < j) : Op2 X c (binaryOp .Mod) m1 (.int i) m2 (.int j) .val (.int (i % j)) := op2_I (g' := fun i j => .int (i % j)) op_mod (fun _ _ _ _ _ => .int _) h
theorem o_lt : Op2 X c (compareOp .Lt) m1 (.int i) m2 (.int j) .val (.bl (decide (i < j))) := op2_I0 (g' := fun i j => .bl (decide (i < j))) op_lt fun _ _ _ _ _ => .bl _
theorem o_le : Op2 X c (compareOp .LtE) m1 (.int i) m2 (.int j) .val (.bl (decide (i ≤ j))) := op2_I0 (g' := fun i j => .bl (decide (i ≤ j))) op_le fun _ _ _ _ _ => .bl _
theorem o_gt : Op2 X c (compareOp .Gt) m1 (.int i) m2 (.int j) .val (.bl (decide (j < i))) := op2_I0 (g' := fun i j => .bl (decide (j < i))) op_gt fun _ _ _ _ _ => .bl _
theorem o_ge : Op2 X c (compareOp .GtE) m1 (.int i) m2 (.int j) .val (.bl (decide (j ≤ i))) := op2_I0 (g' := fun i j => .bl (decide (j ≤ i))) op_ge fun _ _ _ _ _ => .bl _
end
end Ov

/-! D-layer: truths, sequences, dicts, built-ins. -/
namespace Ov
open PySem L2

/-! ### and, or, not -/
structure DW (X : Cx) (c : Cc) (δ : List Sl) (e : Expr) (b : Bool) : Prop where
  k : X.K = c.K
  pw : PW X e (tT c δ b)
theorem PW.imp {X : Cx} {e : Expr} {t t' : TT} (h : PW X e t) (i : ∀ σ H Q, t' σ H Q → t σ H Q) : PW X e t' := ⟨fun wh pins s σ H Q I w => h.run wh pins s σ H Q I (i σ H Q w)⟩
section
variable {X : Cx} {c : Cc} {δ : List Sl} {a b e cnd : Expr} {rest : List Expr} {pos : Pos} {k k1 k2 : Bool} {m m1 m2 : Mo} {d d1 d2 : D}
theorem DW.dt (h : DW X c δ e k) : DT X c δ e k := ⟨h.k, h.pw.pt⟩
theorem dw_and1 (h : DT X c δ a k) : DW X c δ (.BoolOp .And [a] pos) k := ⟨h.k, pw_and1 h.pt⟩
theorem dw_or1 (h : DT X c δ a k) : DW X c δ (.BoolOp .Or [a] pos) k := ⟨h.k, pw_or1 h.pt⟩
/-- never comes there -/
theorem PW.never {X : Cx} {e : Expr} : PW X e (fun _ _ _ => False) := ⟨fun _ _ _ _ _ _ _ h => h.elim⟩
theorem PE.never {X : Cx} {e : Expr} : PE X e (fun _ _ _ => False) := ⟨fun _ _ _ _ _ _ h => h.elim⟩
theorem dw_and (h : DT X c δ a k1) (h2 : k1 = true → DW X c δ (.BoolOp .And (b :: rest) pos) k2) : DW X c δ (.BoolOp .And (a :: b :: rest) pos) (k1 && k2) := by
  cases k1 with
  | true =>
    refine ⟨h.k, PW.imp (pw_and h.pt (h2 rfl).pw) fun σ H Q ⟨S, e, g, q⟩ => ⟨S, e, g, fun S1 l1 g1 => ?_⟩⟩
    show tT c δ k2 σ S1.h Q
    exact ⟨S1, rfl, g1, fun S2 l2 g2 => q S2 (l1.trans l2) g2⟩
  | false =>
    refine ⟨h.k, PW.imp (pw_and h.pt PW.never) fun σ H Q ⟨S, e, g, q⟩ => ⟨S, e, g, fun S1 l1 g1 => ?_⟩⟩
    show Q false S1.h
    exact q S1 l1 g1
theorem dw_or (h : DT X c δ a k1) (h2 : k1 = false → DW X c δ (.BoolOp .Or (b :: rest) pos) k2) : DW X c δ (.BoolOp .Or (a :: b :: rest) pos) (k1 || k2) := by
  cases k1 with
  | false =>
    refine ⟨h.k, PW.imp (pw_or h.pt (h2 rfl).pw) fun σ H Q ⟨S, e, g, q⟩ => ⟨S, e, g, fun S1 l1 g1 => ?_⟩⟩
    show tT c δ k2 σ S1.h Q
    exact ⟨S1, rfl, g1, fun S2 l2 g2 => q S2 (l1.trans l2) g2⟩
  | true =>
    refine ⟨h.k, PW.imp (pw_or h.pt PW.never) fun σ H Q ⟨S, e, g, q⟩ => ⟨S, e, g, fun S1 l1 g1 => ?_⟩⟩
    show Q true S1.h
    exact q S1 l1 g1
theorem dt_not (h : DT X c δ a k) : DT X c δ (.UnaryOp .Not a pos) (!k) := ⟨h.k, PT.imp (pt_not h.pt) fun σ H Q ⟨S, e, g, q⟩ => ⟨S, e, g, q⟩⟩
theorem de_not (h : DE X c m δ a (.bl k)) : DE X c .val δ (.UnaryOp .Not a pos) (.bl (!k)) :=
  DE.mkE h.k (pe_not h.pe) fun S σ g Q q => ⟨S, rfl, g, fun v S1 l1 g1 r1 => ⟨k, ReM.blI r1, q _ S1 l1 g1 (.bl _)⟩⟩
theorem de_one {op} (h : DE X c m δ a d) : DE X c m δ (.BoolOp op [a] pos) d := ⟨h.k, pe_one h.pe⟩
theorem de_and (h : DE X c m1 δ a (.bl k1)) (h2 : k1 = true → DE X c m2 δ (.BoolOp .And (b :: rest) pos) (.bl k2)) : DE X c .val δ (.BoolOp .And (a :: b :: rest) pos) (.bl (k1 && k2)) := by
  cases k1 with
  | true =>
    refine DE.mkE h.k (pe_and h.pe (h2 rfl).pe) fun S σ g Q q => ⟨S, rfl, g, fun v S1 l1 g1 r1 => ⟨true, ReM.blI r1, ?_⟩⟩
    show tE c m2 δ (.bl k2) σ S1.h Q
    exact ⟨S1, rfl, g1, fun v S2 l2 g2 r2 => q v S2 (l1.trans l2) g2 (r2.val rfl)⟩
  | false =>
    refine DE.mkE h.k (pe_and h.pe PE.never) fun S σ g Q q => ⟨S, rfl, g, fun v S1 l1 g1 r1 => ⟨false, ReM.blI r1, ?_⟩⟩
    show Q (.bl false) S1.h
    exact q _ S1 l1 g1 (.bl false)
theorem de_or (h : DE X c m1 δ a (.bl k1)) (h2 : k1 = false → DE X c m2 δ (.BoolOp .Or (b :: rest) pos) (.bl k2)) : DE X c .val δ (.BoolOp .Or (a :: b :: rest) pos) (.bl (k1 || k2)) := by
  cases k1 with
  | false =>
    refine DE.mkE h.k (pe_or h.pe (h2 rfl).pe) fun S σ g Q q => ⟨S, rfl, g, fun v S1 l1 g1 r1 => ⟨false, ReM.blI r1, ?_⟩⟩
    show tE c m2 δ (.bl k2) σ S1.h Q
    exact ⟨S1, rfl, g1, fun v S2 l2 g2 r2 => q v S2 (l1.trans l2) g2 (r2.val rfl)⟩
  | true =>
    refine DE.mkE h.k (pe_or h.pe PE.never) fun S σ g Q q => ⟨S, rfl, g, fun v S1 l1 g1 r1 => ⟨true, ReM.blI r1, ?_⟩⟩
    show Q (.bl true) S1.h
    exact q _ S1 l1 g1 (.bl true)
/-- a if t else b -/
theorem de_ifT (h : DT X c δ cnd true) (ha : DE X c m δ a d) : DE X c m δ (.IfExp cnd a b pos) d :=
  DE.mkE h.k (pe_ifExp h.pt ha.pe PE.never) fun S σ g Q q => ⟨S, rfl, g, fun S1 l1 g1 => by
    show tE c m δ d σ S1.h Q
    exact ⟨S1, rfl, g1, fun v S2 l2 g2 r2 => q v S2 (l1.trans l2) g2 r2⟩⟩
theorem de_ifF (h : DT X c δ cnd false) (hb : DE X c m δ b d) : DE X c m δ (.IfExp cnd a b pos) d :=
  DE.mkE h.k (pe_ifExp h.pt PE.never hb.pe) fun S σ g Q q => ⟨S, rfl, g, fun S1 l1 g1 => by
    show tE c m δ d σ S1.h Q
    exact ⟨S1, rfl, g1, fun v S2 l2 g2 r2 => q v S2 (l1.trans l2) g2 r2⟩⟩
theorem de_ifI {i j : Int} (h : DT X c δ cnd k) (ha : k = true → DE X c m1 δ a (.int i)) (hb : k = false → DE X c m2 δ b (.int j)) : DE X c .val δ (.IfExp cnd a b pos) (.int (if k = true then i else j)) := by
  cases k with
  | true => exact de_ifT h ((ha rfl).to fun S σ v g r => ⟨S, rfl, Le.refl c S, g, r.val rfl⟩)
  | false => exact de_ifF h ((hb rfl).to fun S σ v g r => ⟨S, rfl, Le.refl c S, g, r.val rfl⟩)
theorem de_ifD (h : DT X c δ cnd k) (ha : k = true → DE X c .val δ a d1) (hb : k = false → DE X c .val δ b d2) : DE X c .val δ (.IfExp cnd a b pos) (if k = true then d1 else d2) := by
  cases k with
  | true => exact de_ifT h (ha rfl)
  | false => exact de_ifF h (hb rfl)
end

/-! ### one-place -/
section
variable {X : Cx} {c : Cc} {δ : List Sl} {a b e : Expr} {es : List Expr} {pos : Pos} {m m1 m2 : Mo} {d d1 d2 : D} {i : Int}
theorem de_neg (h : DE X c m δ a (.int i)) : DE X c .val δ (.UnaryOp .USub a pos) (.int (-i)) :=
  DE.mkE h.k (pe_un un_neg h.pe) fun S σ g Q q => ⟨S, rfl, g, fun v S1 l1 g1 r1 => ⟨i, r1.intI, q _ S1 l1 g1 (.int _)⟩⟩

/-! ### argument lists, displays -/
theorem da_nil (k : X.K = c.K) : DA X c δ [] [] := ⟨k, PA.imp pa_nil fun σ H Q ⟨S, e, g, q⟩ => e ▸ q [] S (Le.refl c S) g .nil⟩
theorem ReMs.le {S S' : G} (l : Le c S S') : ∀ {ls : List (Mo × D)} {vs : List V}, (∀ p ∈ ls, p.1 ≠ .fr) → ReMs c S ls vs → ReMs c S' ls vs
  | _, _, _, .nil => .nil
  | (m, d) :: ls, x :: vs, h, .cons r t => by
    have e : nf m = m := by
      have := h _ List.mem_cons_self
      cases m <;> first | rfl | exact absurd rfl this
    exact .cons (e ▸ ReM.le l (e.symm ▸ r)) (t.le l fun p hp => h p (List.mem_cons_of_mem _ hp))
theorem nf_ne (m : Mo) : nf m ≠ .fr := by cases m <;> exact fun z => by cases z
theorem da_cons {l : List (Mo × D)} (ha : DE X c m δ a d) (hr : DA X c δ es l) (hs : starEach (a :: es) X.env = (false, eval a X.env) :: starEach es X.env := by rfl) : DA X c δ (a :: es) ((nf m, d) :: l) :=
  ⟨ha.k, PA.imp (pa_cons ha.nf.pe hr.pa hs) fun σ H Q ⟨S, e, g, q⟩ => ⟨S, e, g, fun v S1 l1 g1 r1 => ⟨S1, rfl, g1, fun vs S2 l2 g2 r2 =>
    q _ S2 (l1.trans l2) g2 (.cons (ReM.le l2 r1) r2)⟩⟩⟩
/-- values that stay -/
theorem da_consV {l : List (Mo × D)} (ha : DE X c m δ a d) (hv : canVal m d = true) (hr : DA X c δ es l) (hs : starEach (a :: es) X.env = (false, eval a X.env) :: starEach es X.env := by rfl) : DA X c δ (a :: es) ((.val, d) :: l) :=
  da_cons (m := .val) (ha.val hv) hr hs
def allVal (l : List (Mo × D)) : Bool := l.all fun p => decide (p.1 = .val)
theorem ReMs.all {S : G} : ∀ {l : List (Mo × D)} {vs : List V}, allVal l = true → ReMs c S l vs → ReAll c.K c.C S.b vs (l.map (·.2))
  | _, _, _, .nil => .nil
  | (m, d) :: l, x :: vs, h, .cons r t => by
    have h : (decide (m = Mo.val) && allVal l) = true := h
    rw [Bool.and_eq_true, decide_eq_true_eq] at h
    obtain ⟨h1, h2⟩ := h
    subst h1
    exact .cons r (t.all h2)
theorem ReMs.length {S : G} : ∀ {l : List (Mo × D)} {vs : List V}, ReMs c S l vs → vs.length = l.length
  | _, _, .nil => rfl
  | _, _, .cons _ t => congrArg (· + 1) t.length
theorem sz {n : Nat} (h : n ≤ 100000) : n ≤ sizeLine := Nat.le_trans h (by decide)
theorem szl {n : Nat} (h : n < 100000) : n < sizeLine := Nat.lt_of_lt_of_le h (by decide)
theorem de_tup {x1} {l : List (Mo × D)} (h : DA X c δ es l) (hv : allVal l = true) (hl : l.length ≤ 100000) : DE X c .val δ (.Tuple es x1 pos) (.tup (l.map (·.2))) :=
  DE.mkE h.k (pe_tupF h.pa) fun S σ g Q q => ⟨S, rfl, g, fun vs S1 l1 g1 r1 => ⟨by rw [r1.length]; exact sz hl, fun p ob hp hd =>
    q (.ref p) (S1.add p (.frz ob (.tup vs))) (l1.trans (Le.add g1.exb hp)) (g1.add hp) (.tup ⟨ob, upd_same, hd⟩ ((r1.all hv).mono (Ex.new (g1.exb.none hp))))⟩⟩
/-- a pair that may be a key -/
theorem de_pkD {x1} {i j : Int} (h : DA X c δ es [(.val, .int i), (.val, .int j)]) : DE X c .val δ (.Tuple es x1 pos) (.pk i j) :=
  DE.mkE h.k (pe_tup h.pa) fun S σ g Q q => ⟨S, rfl, g, fun vs S1 l1 g1 r1 => ⟨by rw [r1.length]; exact sz (show 2 ≤ 100000 by decide), fun p hp => by
    have ev : vs = [V.int i, V.int j] := (r1.all rfl).ints_inv (ns := [i, j])
    subst ev
    exact q (.ref p) (S1.add p (.tup [V.int i, V.int j])) (l1.trans (Le.add g1.exb hp)) (g1.add hp) (.pk upd_same)⟩⟩
theorem de_lst {l : List (Mo × D)} (h : DA X c δ es l) (hv : allVal l = true) (hl : l.length ≤ 100000) : DE X c .fr δ (.List es pos) (.lst (l.map (·.2))) :=
  DE.mkE h.k (pe_lst h.pa) fun S σ g Q q => ⟨S, rfl, g, fun vs S1 l1 g1 r1 => ⟨by rw [r1.length]; exact sz hl, fun p hp =>
    q (.ref p) (S1.addO p (.lst vs)) (l1.trans (Le.addO hp)) (g1.addO hp) (.lst (g1.owNew hp) upd_same (show ReAll c.K c.C S1.b _ _ from r1.all hv))⟩⟩
theorem de_nil (k : X.K = c.K) : DE X c .fr δ (.List [] pos) (.lst []) := de_lst (l := []) (da_nil k) rfl (by decide)
theorem de_dkNew (k : X.K = c.K) : DE X c .fr δ (.Dict [] [] pos) (.dk []) :=
  DE.mkE k pe_dnewK fun S σ g Q q => fun p hp => q (.ref p) (S.addO p (.dK [])) (Le.addO hp) (g.addO hp) (.dk (kvs := []) (g.owNew hp) upd_same)
theorem de_dpNew (k : X.K = c.K) : DE X c .fr δ (.Dict [] [] pos) (.dp []) :=
  DE.mkE k pe_dnewT fun S σ g Q q => fun p hp => q (.ref p) (S.addO p (.dT [])) (Le.addO hp) (g.addO hp) (.dp (kvs := []) (g.owNew hp) upd_same)
end

/-! ### what is read of a sequence -/
section
variable {X : Cx} {c : Cc} {δ : List Sl} {S : G} {σ : St} {v : V} {ds : List D} {m : Mo}
/-- a list that may be read now: what lies within stays where sh is -/
theorem ReS.lstI {K : PySem.W.Frag} {C : Addr} (e : Ex S.b S.h) (r : ReS K C S v (.lst ds)) : ∃ p xs, v = .ref p ∧ S.h p = some (.lst xs) ∧ ReAll K C S.b xs ds := by
  cases r with
  | lst h q => exact ⟨_, _, rfl, h, q⟩
  | of q => cases q with | lst h q => exact ⟨_, _, rfl, e _ _ h, q⟩
theorem Re.lstI {K : PySem.W.Frag} {C : Addr} {H : Hp} (r : Re K C H v (.lst ds)) : ∃ p xs, v = .ref p ∧ H p = some (.lst xs) ∧ ReAll K C H xs ds := by
  cases r with | lst h q => exact ⟨_, _, rfl, h, q⟩
theorem Re.tupI {K : PySem.W.Frag} {C : Addr} {H : Hp} (r : Re K C H v (.tup ds)) : ∃ p xs, v = .ref p ∧ TupK H p xs ∧ ReAll K C H xs ds := by
  cases r with | tup h q => exact ⟨_, _, rfl, h, q⟩
theorem ReS.tupI {K : PySem.W.Frag} {C : Addr} (r : ReS K C S v (.tup ds)) : ∃ p xs, v = .ref p ∧ TupK S.b p xs ∧ ReAll K C S.b xs ds := by
  cases r with
  | of q => cases q with | tup h q => exact ⟨_, _, rfl, h, q⟩
/-- by its mode: the items of what is old are old, of what is one's own stay -/
def itMo : Mo → Mo
  | .old => .old | .bor => .bor | _ => .val
theorem GoodH.lst (g : GoodH c S) (r : ReM c S m v (.lst ds)) : ∃ p xs, v = .ref p ∧ S.h p = some (.lst xs) ∧ xs.length = ds.length ∧ ∀ (i : Nat) (d : D) (x : V), ds[i]? = some d → xs[i]? = some x → ReM c S (itMo m) x d := by
  have fin : ∀ {H : Hp} {xs : List V}, ReAll c.K c.C H xs ds → ∀ (i : Nat) (d : D) (x : V), ds[i]? = some d → xs[i]? = some x → Re c.K c.C H x d := fun {H xs} h i d x h1 h2 => by
    obtain ⟨x', h3, h4⟩ := h.get h1
    rw [h2] at h3; cases h3; exact h4
  have shc : ReS c.K c.C S v (.lst ds) → ∃ p xs, v = .ref p ∧ S.h p = some (.lst xs) ∧ xs.length = ds.length ∧ ∀ (i : Nat) (d : D) (x : V), ds[i]? = some d → xs[i]? = some x → ReM c S .val x d := fun r => by
    obtain ⟨p, xs, e, h, q⟩ := ReS.lstI g.exb r
    exact ⟨p, xs, e, h, q.length, fin q⟩
  cases m with
  | val => exact shc (.of r)
  | sh => exact shc r
  | fr => exact shc (ReM.nf (m := .fr) r)
  | old =>
    obtain ⟨p, xs, e, h, q⟩ := Re.lstI r
    exact ⟨p, xs, e, g.ex0 _ _ h, q.length, fin q⟩
  | bor =>
    obtain ⟨p, xs, e, h, q⟩ := Re.lstI r
    exact ⟨p, xs, e, h, q.length, fin q⟩
theorem GoodH.tup (g : GoodH c S) (r : ReM c S m v (.tup ds)) : ∃ p xs, v = .ref p ∧ TupK S.h p xs ∧ xs.length = ds.length ∧ ∀ (i : Nat) (d : D) (x : V), ds[i]? = some d → xs[i]? = some x → ReM c S (itMo m) x d := by
  have fin : ∀ {H : Hp} {xs : List V}, ReAll c.K c.C H xs ds → ∀ (i : Nat) (d : D) (x : V), ds[i]? = some d → xs[i]? = some x → Re c.K c.C H x d := fun {H xs} h i d x h1 h2 => by
    obtain ⟨x', h3, h4⟩ := h.get h1
    rw [h2] at h3; cases h3; exact h4
  have shc : ReS c.K c.C S v (.tup ds) → ∃ p xs, v = .ref p ∧ TupK S.h p xs ∧ xs.length = ds.length ∧ ∀ (i : Nat) (d : D) (x : V), ds[i]? = some d → xs[i]? = some x → ReM c S .val x d := fun r => by
    obtain ⟨p, xs, e, h, q⟩ := ReS.tupI r
    exact ⟨p, xs, e, h.mono g.exb, q.length, fin q⟩
  cases m with
  | val => exact shc (.of r)
  | sh => exact shc r
  | fr =>
    have r : ReO c S none v (.tup ds) := r
    cases r
  | old =>
    obtain ⟨p, xs, e, h, q⟩ := Re.tupI r
    exact ⟨p, xs, e, h.mono g.ex0, q.length, fin q⟩
  | bor =>
    obtain ⟨p, xs, e, h, q⟩ := Re.tupI r
    exact ⟨p, xs, e, h, q.length, fin q⟩
theorem intsOf {xs : List V} {ns : List Int} (hl : xs.length = (ns.map D.int).length) (h : ∀ (i : Nat) (d : D) (x : V), (ns.map D.int)[i]? = some d → xs[i]? = some x → ReM c S m x d) : xs = ns.map V.int := by
  apply List.ext_getElem?
  intro i
  rw [List.getElem?_map]
  cases e : ns[i]? with
  | none =>
    have : ns.length ≤ i := List.getElem?_eq_none_iff.mp e
    rw [List.length_map] at hl
    show xs[i]? = none
    exact List.getElem?_eq_none_iff.mpr (by omega)
  | some n =>
    have hi : i < xs.length := by
      obtain ⟨h1, _⟩ := List.getElem?_eq_some_iff.mp e
      rw [List.length_map] at hl; omega
    have h1 := h i (.int n) xs[i] (by rw [List.getElem?_map, e]; rfl) (List.getElem?_eq_getElem hi)
    rw [List.getElem?_eq_getElem hi, h1.intI]; rfl
theorem GoodH.lstI (g : GoodH c S) {ns : List Int} (r : ReM c S m v (.lst (ns.map D.int))) : ∃ p, v = .ref p ∧ S.h p = some (.lst (ns.map V.int)) := by
  obtain ⟨p, xs, e, h, hl, q⟩ := g.lst r
  exact ⟨p, e, by rw [h, intsOf hl q]⟩
theorem GoodH.tupI (g : GoodH c S) {ns : List Int} (r : ReM c S m v (.tup (ns.map D.int))) : ∃ p, v = .ref p ∧ TupK S.h p (ns.map V.int) := by
  obtain ⟨p, xs, e, h, hl, q⟩ := g.tup r
  exact ⟨p, e, intsOf hl q ▸ h⟩
end
end Ov

/-! D-layer: sequences, equality, dicts, built-ins by name. -/
namespace Ov
open PySem L2

/-! ### == of data -/
mutual
def pyd : D → PyData
  | .non => .none
  | .bl b => .bool b
  | .int i => .int i
  | .str x => .str x
  | .lst ds => .list (pydAll ds)
  | .tup ds => .tuple (pydAll ds)
  | .dk _ => .none | .dp _ => .none | .arc _ _ _ => .none | .scr _ => .none | .pk _ _ => .none | .exr _ => .none
def pydAll : List D → List PyData
  | [] => []
  | d :: ds => pyd d :: pydAll ds
end
/-- no dicts within, at most k deep -/
def fl : Nat → D → Bool
  | _, .non => true
  | _, .bl _ => true
  | _, .int _ => true
  | _, .str x => (PyData.str x).canLay0
  | k + 1, .lst ds => ds.all (fl k)
  | k + 1, .tup ds => ds.all (fl k)
  | _, _ => false
def deq (d e : D) : Bool := PyData.eqv (pyd d) (pyd e)
theorem fl_lay : ∀ (k : Nat) (d : D), fl k d = true → (pyd d).canLay0 = true ∧ (pyd d).depth ≤ k := by
  have all : ∀ (k : Nat), (∀ d, fl k d = true → (pyd d).canLay0 = true ∧ (pyd d).depth ≤ k) → ∀ ds : List D, ds.all (fl k) = true → PyData.canLayAll0 (pydAll ds) = true ∧ PyData.depthAll (pydAll ds) ≤ k := by
    intro k ih ds
    induction ds with
    | nil => intro _; simp [pydAll, PyData.canLayAll0, PyData.depthAll]
    | cons d ds ih2 =>
      intro h
      rw [List.all_cons, Bool.and_eq_true] at h
      obtain ⟨a1, a2⟩ := ih d h.1
      obtain ⟨b1, b2⟩ := ih2 h.2
      simp only [pydAll, PyData.canLayAll0, PyData.depthAll, a1, b1, Bool.and_self, true_and]
      omega
  intro k
  induction k with
  | zero =>
    intro d h
    cases d with
    | str x => exact ⟨h, by simp [pyd, PyData.depth]⟩
    | _ => first | (simp [pyd, PyData.canLay0, PyData.depth]; done) | cases h
  | succ k ih =>
    intro d h
    cases d with
    | lst ds =>
      obtain ⟨a, b⟩ := all k ih ds h
      simp only [pyd, PyData.canLay0, PyData.depth]
      exact ⟨a, by omega⟩
    | tup ds =>
      obtain ⟨a, b⟩ := all k ih ds h
      simp only [pyd, PyData.canLay0, PyData.depth]
      exact ⟨a, by omega⟩
    | str x => exact ⟨h, by simp [pyd, PyData.depth]⟩
    | _ => first | (simp [pyd, PyData.canLay0, PyData.depth]; done) | cases h
theorem fl_shaped {k : Nat} {d : D} (hk : k ≤ 64) (h : fl k d = true) : SeqAt.shaped (pyd d) = true := by
  obtain ⟨a, b⟩ := fl_lay k d h
  show ((pyd d).canLay0 && decide ((pyd d).depth ≤ 64)) = true
  rw [a, Bool.true_and]
  exact decide_eq_true (Nat.le_trans b hk)
theorem Re.dp' {K : PySem.W.Frag} {C : Addr} {H : Hp} : ∀ (k : Nat) (d : D) (v : V), fl k d = true → Re K C H v d → Dp K H v (pyd d) := by
  have all : ∀ (k : Nat), (∀ d v, fl k d = true → Re K C H v d → Dp K H v (pyd d)) → ∀ (ds : List D) (vs : List V), ds.all (fl k) = true → ReAll K C H vs ds → DpAll K H vs (pydAll ds) := by
    intro k ih ds
    induction ds with
    | nil => intro vs _ r; cases r; simp only [pydAll]; exact .nil
    | cons d ds ih2 =>
      intro vs h r
      rw [List.all_cons, Bool.and_eq_true] at h
      cases r with
      | cons r1 r2 =>
        simp only [pydAll]
        exact .cons (ih d _ h.1 r1) (ih2 _ h.2 r2)
  intro k
  induction k with
  | zero =>
    intro d v h r
    cases r <;> first | (simp only [pyd]; constructor; done) | cases h
  | succ k ih =>
    intro d v h r
    cases r with
    | lst e r => simp only [pyd]; exact .lst (SqL.of e) (all k ih _ _ h r)
    | tup e r => simp only [pyd]; exact .tup e.sq (all k ih _ _ h r)
    | _ => first | (simp only [pyd]; constructor; done) | cases h

section
variable {X : Cx} {c : Cc} {m1 m2 : Mo} {d1 d2 : D}
theorem o_eq (k : Nat) (hu : X.A.units + 64 < cLine) (h1 : fl 8 d1 = true) (h2 : fl 8 d2 = true) (hK : X.K = c.K) : Op2 X c (compareOp .Eq) m1 d1 m2 d2 .val (.bl (deq d1 d2)) :=
  ⟨_, op_eqD hu, fun δ S σ x y g r1 r2 Q q => ⟨pyd d1, pyd d2, hK ▸ Re.dp' 8 d1 x h1 (Good.now g.toGoodH r1), hK ▸ Re.dp' 8 d2 y h2 (Good.now g.toGoodH r2), fl_shaped (by decide) h1, fl_shaped (by decide) h2, q _ S (Le.refl c S) g (.bl _)⟩⟩
theorem o_ne (k : Nat) (hu : X.A.units + 64 < cLine) (h1 : fl 8 d1 = true) (h2 : fl 8 d2 = true) (hK : X.K = c.K) : Op2 X c (compareOp .NotEq) m1 d1 m2 d2 .val (.bl (!deq d1 d2)) :=
  ⟨_, op_neD hu, fun δ S σ x y g r1 r2 Q q => ⟨pyd d1, pyd d2, hK ▸ Re.dp' 8 d1 x h1 (Good.now g.toGoodH r1), hK ▸ Re.dp' 8 d2 y h2 (Good.now g.toGoodH r2), fl_shaped (by decide) h1, fl_shaped (by decide) h2, q _ S (Le.refl c S) g (.bl _)⟩⟩
theorem deq_int (i j : Int) : deq (.int i) (.int j) = decide (i = j) := by simp [deq, pyd, PyData.eqv]; rfl
theorem o_eqI {i j : Int} (hu : X.A.units + 64 < cLine) (hK : X.K = c.K) : Op2 X c (compareOp .Eq) m1 (.int i) m2 (.int j) .val (.bl (decide (i = j))) := deq_int i j ▸ o_eq 0 hu rfl rfl hK
theorem o_neI {i j : Int} (hu : X.A.units + 64 < cLine) (hK : X.K = c.K) : Op2 X c (compareOp .NotEq) m1 (.int i) m2 (.int j) .val (.bl (!decide (i = j))) := deq_int i j ▸ o_ne 0 hu rfl rfl hK
theorem o_isB {i j : Bool} : Op2 X c (compareOp .Is) m1 (.bl i) m2 (.bl j) .val (.bl (decide (i = j))) :=
  ⟨_, op_isBl, fun δ S σ x y g r1 r2 Q q => ⟨i, j, r1.blI, r2.blI, q _ S (Le.refl c S) g (.bl _)⟩⟩
theorem o_notB {i j : Bool} : Op2 X c (compareOp .IsNot) m1 (.bl i) m2 (.bl j) .val (.bl (!decide (i = j))) :=
  ⟨_, op_notBl, fun δ S σ x y g r1 r2 Q q => ⟨i, j, r1.blI, r2.blI, q _ S (Le.refl c S) g (.bl _)⟩⟩

/-! ### + of sequences -/
variable {ds es : List D}
def stays : Mo → Bool
  | .val => true | .sh => true | .fr => true | _ => false
theorem GoodH.lstS {S : G} {v : V} {m : Mo} (g : GoodH c S) (h : stays m = true ∨ ds.all isAt = true) (r : ReM c S m v (.lst ds)) : ∃ p xs, v = .ref p ∧ S.h p = some (.lst xs) ∧ ReAll c.K c.C S.b xs ds := by
  obtain ⟨p, xs, e, hp, hl, q⟩ := g.lst r
  refine ⟨p, xs, e, hp, ?_⟩
  have : ∀ (xs : List V) (ds : List D), xs.length = ds.length → (∀ (i : Nat) (d : D) (x : V), ds[i]? = some d → xs[i]? = some x → Re c.K c.C S.b x d) → ReAll c.K c.C S.b xs ds := by
    intro xs
    induction xs with
    | nil => intro ds h _; cases ds with | nil => exact .nil | cons _ _ => cases h
    | cons x xs ih =>
      intro ds h q
      cases ds with
      | nil => cases h
      | cons d ds => exact .cons (q 0 d x rfl rfl) (ih ds (by simpa using h) fun i d x h1 h2 => q (i + 1) d x (by simpa using h1) (by simpa using h2))
  refine this xs ds hl fun i d x h1 h2 => ?_
  rcases h with h | h
  · have z := q i d x h1 h2
    cases m <;> first | exact z | cases h
  · exact (q i d x h1 h2).at (List.all_eq_true.mp h d (List.mem_of_getElem? h1)) rfl
theorem GoodH.tupS {S : G} {v : V} {m : Mo} (g : GoodH c S) (h : stays m = true ∨ ds.all isAt = true) (r : ReM c S m v (.tup ds)) : ∃ p xs, v = .ref p ∧ TupK S.h p xs ∧ ReAll c.K c.C S.b xs ds := by
  obtain ⟨p, xs, e, hp, hl, q⟩ := g.tup r
  refine ⟨p, xs, e, hp, ?_⟩
  have : ∀ (xs : List V) (ds : List D), xs.length = ds.length → (∀ (i : Nat) (d : D) (x : V), ds[i]? = some d → xs[i]? = some x → Re c.K c.C S.b x d) → ReAll c.K c.C S.b xs ds := by
    intro xs
    induction xs with
    | nil => intro ds h _; cases ds with | nil => exact .nil | cons _ _ => cases h
    | cons x xs ih =>
      intro ds h q
      cases ds with
      | nil => cases h
      | cons d ds => exact .cons (q 0 d x rfl rfl) (ih ds (by simpa using h) fun i d x h1 h2 => q (i + 1) d x (by simpa using h1) (by simpa using h2))
  refine this xs ds hl fun i d x h1 h2 => ?_
  rcases h with h | h
  · have z := q i d x h1 h2
    cases m <;> first | exact z | cases h
  · exact (q i d x h1 h2).at (List.all_eq_true.mp h d (List.mem_of_getElem? h1)) rfl
theorem ints_at (ns : List Int) : (ns.map D.int).all isAt = true := by
  rw [List.all_map]; exact List.all_eq_true.mpr fun _ _ => rfl
theorem o_cat (h1 : stays m1 = true ∨ ds.all isAt = true) (h2 : stays m2 = true ∨ es.all isAt = true) (hl : ds.length + es.length ≤ 100000) : Op2 X c (binaryOp .Add) m1 (.lst ds) m2 (.lst es) .fr (.lst (ds ++ es)) :=
  ⟨_, op_cat, fun δ S σ x y g r1 r2 Q q => by
    obtain ⟨p, xs, e1, hp, q1⟩ := g.toGoodH.lstS h1 r1
    obtain ⟨p', ys, e2, hp', q2⟩ := g.toGoodH.lstS h2 r2
    refine ⟨p, p', xs, ys, e1, e2, hp, hp', by rw [q1.length, q2.length]; exact sz hl, fun a ha => ?_⟩
    exact q (.ref a) (S.addO a (.lst (xs ++ ys))) (Le.addO ha) (g.addO ha) (.lst (g.owNew ha) upd_same (q1.append q2))⟩
/-- of tuples that stay -/
theorem o_catT (hK : X.K = c.K) (h1 : m1 = .val) (h2 : m2 = .val) (hl : ds.length + es.length ≤ 100000) : Op2 X c (binaryOp .Add) m1 (.tup ds) m2 (.tup es) .val (.tup (ds ++ es)) := by
  subst h1 h2
  exact ⟨_, op_catF, fun δ S σ x y g r1 r2 Q q => by
    obtain ⟨p, xs, e1, hp, q1⟩ := Re.tupI r1
    obtain ⟨p', ys, e2, hp', q2⟩ := Re.tupI r2
    refine ⟨p, p', xs, ys, e1, e2, (hp.mono g.exb).sq, (hp'.mono g.exb).sq, by rw [q1.length, q2.length]; exact sz hl, fun z => ?_, fun _ z => ?_, fun _ _ a ob ha hd => ?_⟩
    · subst z e1 e2
      have : ds = [] := by cases q1; rfl
      subst this
      exact q _ S (Le.refl c S) g r2
    · subst z e1 e2
      have : es = [] := by cases q2; rfl
      subst this
      rw [List.append_nil] at q
      exact q _ S (Le.refl c S) g r1
    · exact q (.ref a) (S.add a (.frz ob (.tup (xs ++ ys)))) (Le.add g.exb ha) (g.add ha) (.tup ⟨ob, upd_same, hd⟩ ((q1.append q2).mono (Ex.new (g.exb.none ha))))⟩

/-! ### in -/
theorem inV_int (i : Int) : ∀ ns : List Int, inV (.int i) (ns.map V.int) = decide (i ∈ ns)
  | [] => by simp [inV]
  | n :: ns => by
    have ih := inV_int i ns
    unfold inV at ih ⊢
    rw [List.map_cons, List.any_cons, ih]
    by_cases h : n = i
    · subst h; simp [eqV]
    · have h' : i ≠ n := fun z => h z.symm
      simp [eqV, h, h']
theorem flat_ints (ns : List Int) : (ns.map V.int).all flatV = true := by
  rw [List.all_map]; exact List.all_eq_true.mpr fun _ _ => rfl
variable {i : Int} {ns : List Int}
theorem o_in : Op2 X c (compareOp .In) m1 (.int i) m2 (.lst (ns.map D.int)) .val (.bl (decide (i ∈ ns))) :=
  ⟨_, op_in_seq, fun δ S σ x y g r1 r2 Q q => by
    obtain ⟨p, e, h⟩ := g.toGoodH.lstI r2
    refine ⟨p, _, e, .inl (SqL.of h), by rw [r1.intI]; rfl, flat_ints ns, ?_⟩
    rw [r1.intI, inV_int]
    exact q _ S (Le.refl c S) g (.bl _)⟩
theorem o_nin : Op2 X c (compareOp .NotIn) m1 (.int i) m2 (.lst (ns.map D.int)) .val (.bl (!decide (i ∈ ns))) :=
  ⟨_, op_notIn_seq, fun δ S σ x y g r1 r2 Q q => by
    obtain ⟨p, e, h⟩ := g.toGoodH.lstI r2
    refine ⟨p, _, e, .inl (SqL.of h), by rw [r1.intI]; rfl, flat_ints ns, ?_⟩
    rw [r1.intI, inV_int]
    exact q _ S (Le.refl c S) g (.bl _)⟩
theorem o_inT : Op2 X c (compareOp .In) m1 (.int i) m2 (.tup (ns.map D.int)) .val (.bl (decide (i ∈ ns))) :=
  ⟨_, op_in_seq, fun δ S σ x y g r1 r2 Q q => by
    obtain ⟨p, e, h⟩ := g.toGoodH.tupI r2
    refine ⟨p, _, e, .inr h.sq, by rw [r1.intI]; rfl, flat_ints ns, ?_⟩
    rw [r1.intI, inV_int]
    exact q _ S (Le.refl c S) g (.bl _)⟩
theorem o_ninT : Op2 X c (compareOp .NotIn) m1 (.int i) m2 (.tup (ns.map D.int)) .val (.bl (!decide (i ∈ ns))) :=
  ⟨_, op_notIn_seq, fun δ S σ x y g r1 r2 Q q => by
    obtain ⟨p, e, h⟩ := g.toGoodH.tupI r2
    refine ⟨p, _, e, .inr h.sq, by rw [r1.intI]; rfl, flat_ints ns, ?_⟩
    rw [r1.intI, inV_int]
    exact q _ S (Le.refl c S) g (.bl _)⟩
end

/-! ### subscripts -/
def Ix (X : Cx) (c : Cc) (m1 : Mo) (d1 : D) (m2 : Mo) (d2 : D) (m : Mo) (d : D) : Prop :=
  ∃ r : R2, IxR X r ∧ ∀ δ S σ x y, Good c S σ δ → ReM c S m1 x d1 → ReM c S m2 y d2 → ∀ Q : VK, (∀ v S', Le c S S' → Good c S' σ δ → ReM c S' m v d → Q v S'.h) → r x y S.h Q
section
variable {X : Cx} {c : Cc} {δ : List Sl} {a b e : Expr} {pos : Pos} {m m1 m2 : Mo} {d d1 d2 : D} {ds : List D} {i : Int}
theorem de_ix (ha : DE X c m1 δ a d1) (hb : DE X c m2 δ b d2) (ho : Ix X c (nf m1) d1 (nf m2) d2 m d) (hp : PlainIx b) : DE X c m δ (.Subscript a b pos) d := by
  obtain ⟨r, hr, hq⟩ := ho
  exact DE.mkE ha.k (pe_ix hr ha.nf.pe hb.nf.pe hp) fun S σ g Q q => ⟨S, rfl, g, fun x S1 l1 g1 r1 => ⟨S1, rfl, g1, fun y S2 l2 g2 r2 =>
    hq δ S2 σ x y g2 (ReM.le l2 r1) r2 Q fun v S3 l3 g3 r3 => q v S3 ((l1.trans l2).trans l3) g3 r3⟩⟩
theorem atI_lift {xs : List V} (hl : xs.length = ds.length) (h : atI ds i = some d) : ∃ (x : V) (j : Nat), atI xs i = some x ∧ ds[j]? = some d ∧ xs[j]? = some x := by
  unfold atI at h ⊢
  rw [hl]
  cases e : ixN ds.length i with
  | none => rw [e] at h; cases h
  | some j =>
    rw [e] at h
    have h : ds[j]? = some d := h
    have hj : j < xs.length := by
      obtain ⟨h1, _⟩ := List.getElem?_eq_some_iff.mp h
      omega
    exact ⟨xs[j], j, List.getElem?_eq_getElem hj, h, List.getElem?_eq_getElem hj⟩
theorem ix_l (h : atI ds i = some d) : Ix X c m1 (.lst ds) m2 (.int i) (itMo m1) d :=
  ⟨_, ix_list, fun δ S σ x y g r1 r2 Q q => by
    obtain ⟨p, xs, e, hp, hl, hx⟩ := g.toGoodH.lst r1
    obtain ⟨x', j, h1, h2, h3⟩ := atI_lift hl h
    exact ⟨p, xs, i, x', e, r2.intI, SqL.of hp, h1, q x' S (Le.refl c S) g (hx j d x' h2 h3)⟩⟩
theorem ix_t (h : atI ds i = some d) : Ix X c m1 (.tup ds) m2 (.int i) (itMo m1) d :=
  ⟨_, ix_tup, fun δ S σ x y g r1 r2 Q q => by
    obtain ⟨p, xs, e, hp, hl, hx⟩ := g.toGoodH.tup r1
    obtain ⟨x', j, h1, h2, h3⟩ := atI_lift hl h
    exact ⟨p, xs, i, x', e, r2.intI, hp.sq, h1, q x' S (Le.refl c S) g (hx j d x' h2 h3)⟩⟩
/-- of ints -/
theorem atI_ints {ns : List Int} {n : Int} (h : atI ns i = some n) : atI (ns.map D.int) i = some (.int n) := by
  unfold atI at h ⊢
  rw [List.length_map]
  cases e : ixN ns.length i with
  | none => rw [e] at h; cases h
  | some j =>
    rw [e] at h
    have h : ns[j]? = some n := h
    show (ns.map D.int)[j]? = some (D.int n)
    rw [List.getElem?_map, h]; rfl
theorem ix_li {ns : List Int} {n : Int} (h : atI ns i = some n) : Ix X c m1 (.lst (ns.map D.int)) m2 (.int i) .val (.int n) := by
  obtain ⟨r, h1, h2⟩ := ix_l (X := X) (c := c) (m1 := m1) (m2 := m2) (atI_ints h)
  exact ⟨r, h1, fun δ S σ x y g r1 r2 Q q => h2 δ S σ x y g r1 r2 Q fun v S' l g' r' => q v S' l g' (r'.val rfl)⟩
theorem ix_ti {ns : List Int} {n : Int} (h : atI ns i = some n) : Ix X c m1 (.tup (ns.map D.int)) m2 (.int i) .val (.int n) := by
  obtain ⟨r, h1, h2⟩ := ix_t (X := X) (c := c) (m1 := m1) (m2 := m2) (atI_ints h)
  exact ⟨r, h1, fun δ S σ x y g r1 r2 Q q => h2 δ S σ x y g r1 r2 Q fun v S' l g' r' => q v S' l g' (r'.val rfl)⟩
end
end Ov

/-! D-layer: slices, dicts, built-ins by name, attributes. -/
namespace Ov
open PySem L2

/-! ### slices -/
structure DO (X : Cx) (c : Cc) (δ : List Sl) (e : Option Expr) (o : Option Int) : Prop where
  k : X.K = c.K
  po : PO X e (fun σ H Q => ∃ S, S.h = H ∧ Good c S σ δ ∧ ∀ S', Le c S S' → Good c S' σ δ → Q o S'.h)
theorem PO.imp {X : Cx} {e : Option Expr} {t t' : TO} (h : PO X e t) (i : ∀ σ H Q, t' σ H Q → t σ H Q) : PO X e t' := ⟨fun pins s σ H Q I w => h.run pins s σ H Q I (i σ H Q w)⟩
def cutD (ds : List D) (lo hi : Option Int) : List D := (ds.drop (HT.sIx ds.length 0 lo)).take (HT.sIx ds.length ds.length hi - HT.sIx ds.length 0 lo)
section
variable {X : Cx} {c : Cc} {δ : List Sl} {a b e : Expr} {es : List Expr} {pos p2 : Pos} {m m1 m2 : Mo} {d d1 d2 : D} {i : Int} {lo hi : Option Expr} {ol oh : Option Int} {ds : List D}
theorem do_none (k : X.K = c.K) : DO X c δ none none := ⟨k, PO.imp po_none fun σ H Q ⟨S, e, g, q⟩ => e ▸ q S (Le.refl c S) g⟩
theorem do_some (h : DE X c m δ e (.int i)) : DO X c δ (some e) (some i) := ⟨h.k, PO.imp (po_some h.pe) fun σ H Q ⟨S, e, g, q⟩ => ⟨S, e, g, fun v S1 l1 g1 r1 => ⟨i, r1.intI, q S1 l1 g1⟩⟩⟩
def Sli (X : Cx) (c : Cc) (m1 : Mo) (d1 : D) (lo hi : Option Int) (m : Mo) (d : D) : Prop :=
  ∃ r : V → Option Int → Option Int → Hp → VK → Prop, SlR X r ∧ ∀ δ S σ x, Good c S σ δ → ReM c S m1 x d1 → ∀ Q : VK, (∀ v S', Le c S S' → Good c S' σ δ → ReM c S' m v d → Q v S'.h) → r x lo hi S.h Q
theorem de_sl (ha : DE X c m1 δ a d1) (hl : DO X c δ lo ol) (hh : DO X c δ hi oh) (ho : Sli X c (nf m1) d1 ol oh m d) : DE X c m δ (.Subscript a (.Slice lo hi none p2) pos) d := by
  obtain ⟨r, hr, hq⟩ := ho
  exact DE.mkE ha.k (pe_slice hr ha.nf.pe hl.po hh.po) fun S σ g Q q => ⟨S, rfl, g, fun x S1 l1 g1 r1 => ⟨S1, rfl, g1, fun S2 l2 g2 => ⟨S2, rfl, g2, fun S3 l3 g3 =>
    hq δ S3 σ x g3 (ReM.le (l2.trans l3) r1) Q fun v S4 l4 g4 r4 => q v S4 (((l1.trans l2).trans l3).trans l4) g4 r4⟩⟩⟩
theorem sl_l (h1 : stays m1 = true ∨ ds.all isAt = true) : Sli X c m1 (.lst ds) ol oh .fr (.lst (cutD ds ol oh)) :=
  ⟨_, sl_list, fun δ S σ x g r1 Q q => by
    obtain ⟨p, xs, e1, hp, q1⟩ := g.toGoodH.lstS h1 r1
    refine ⟨p, xs, e1, SqL.of hp, fun a ha => ?_⟩
    refine q (.ref a) (S.addO a (.lst (cutV xs ol oh))) (Le.addO ha) (g.addO ha) (.lst (g.owNew ha) upd_same ?_)
    show ReAll c.K c.C S.b (cutV xs ol oh) (cutD ds ol oh)
    unfold cutV cutD
    rw [q1.length]
    exact (q1.drop _).take _⟩
theorem cutD_whole (h : HT.sIx ds.length 0 ol = 0 ∧ HT.sIx ds.length ds.length oh = ds.length) : cutD ds ol oh = ds := by
  unfold cutD
  rw [h.1, h.2]; simp
theorem sl_t (h1 : m1 = .val) : Sli X c m1 (.tup ds) ol oh .val (.tup (cutD ds ol oh)) := by
  subst h1
  exact ⟨_, sl_tupF, fun δ S σ x g r1 Q q => by
    obtain ⟨p, xs, e1, hp, q1⟩ := Re.tupI r1
    refine ⟨p, xs, e1, (hp.mono g.exb).sq, fun z => ?_, fun _ a ob ha hd => ?_⟩
    · rw [q1.length] at z
      rw [cutD_whole z] at q
      subst e1
      exact q _ S (Le.refl c S) g r1
    · refine q (.ref a) (S.add a (.frz ob (.tup (cutV xs ol oh)))) (Le.add g.exb ha) (g.add ha) (.tup ⟨ob, upd_same, hd⟩ (ReAll.mono (Ex.new (g.exb.none ha)) ?_))
      show ReAll c.K c.C S.b (cutV xs ol oh) (cutD ds ol oh)
      unfold cutV cutD
      rw [q1.length]
      exact (q1.drop _).take _⟩
/-- from a borrowed tuple of ints: read only -/
theorem sl_tb {ns : List Int} : Sli X c m1 (.tup (ns.map D.int)) ol oh .bor (.tup (cutD (ns.map D.int) ol oh)) :=
  ⟨_, sl_tupF, fun δ S σ x g r1 Q q => by
    obtain ⟨p, e1, hp⟩ := g.toGoodH.tupI r1
    refine ⟨p, _, e1, hp.sq, fun z => ?_, fun _ a ob ha hd => ?_⟩
    · rw [List.length_map] at z
      rw [cutD_whole (by rw [List.length_map]; exact z)] at q
      subst e1
      exact q _ S (Le.refl c S) g (.tup hp ReAll.ints)
    · refine q (.ref a) (S.add a (.frz ob (.tup (cutV (ns.map V.int) ol oh)))) (Le.add g.exb ha) (g.add ha) (.tup ⟨ob, upd_same, hd⟩ ?_)
      unfold cutV cutD
      rw [List.length_map, List.length_map]
      exact (ReAll.ints.drop _).take _⟩
theorem cutD_ints (ns : List Int) : cutD (ns.map D.int) ol oh = ((ns.drop (HT.sIx ns.length 0 ol)).take (HT.sIx ns.length ns.length oh - HT.sIx ns.length 0 ol)).map D.int := by
  unfold cutD
  rw [List.length_map, List.map_take, List.map_drop]
end

/-! ### dicts -/
section
variable {α β : Type} [DecidableEq α]
def dget (kvs : List (α × β)) (k : α) : Option β := (kvs.find? fun p => decide (p.1 = k)).map (·.2)
def dput (kvs : List (α × β)) (k : α) (v : β) : List (α × β) :=
  if (kvs.any fun p => decide (p.1 = k)) = true then kvs.map (fun p => if p.1 = k then (p.1, v) else p) else kvs ++ [(k, v)]
theorem dget_map {κ : Type} [DecidableEq κ] (f : α → κ) (inj : ∀ x y, f x = f y → x = y) (g : β → V) (k : α) : ∀ kvs : List (α × β), valV (kvs.map fun p => (f p.1, g p.2)) (f k) = (dget kvs k).map g
  | [] => rfl
  | p :: r => by
    have ih := dget_map f inj g k r
    by_cases h : p.1 = k
    · rw [List.map_cons, valV_pos (show ((f p.1, g p.2) : κ × V).1 = f k by rw [h])]
      simp [dget, h]
    · rw [List.map_cons, valV_neg (show ¬ ((f p.1, g p.2) : κ × V).1 = f k from fun z => h (inj _ _ z)), ih]
      simp [dget, h]
theorem dput_map {κ : Type} [DecidableEq κ] (f : α → κ) (inj : ∀ x y, f x = f y → x = y) (g : β → V) (k : α) (v : β) (kvs : List (α × β)) : putK (kvs.map fun p => (f p.1, g p.2)) (f k) (g v) = (dput kvs k v).map fun p => (f p.1, g p.2) := by
  have e : ((kvs.map fun p => ((f p.1, g p.2) : κ × V)).any fun kv => decide (kv.1 = f k)) = kvs.any fun p => decide (p.1 = k) := by
    rw [List.any_map]
    congr 1
    funext p
    simp only [Function.comp]
    by_cases h : p.1 = k
    · simp [h]
    · have : ¬ f p.1 = f k := fun z => h (inj _ _ z)
      simp [h, this]
  unfold putK dput
  rw [e]
  split
  · rw [List.map_map, List.map_map]
    apply List.map_congr_left
    intro p _
    simp only [Function.comp]
    by_cases h : p.1 = k
    · simp [h]
    · have : ¬ f p.1 = f k := fun z => h (inj _ _ z)
      simp [h, this]
  · rw [List.map_append]; rfl
theorem dput_length (kvs : List (α × β)) (k : α) (v : β) : (dput kvs k v).length ≤ kvs.length + 1 := by
  unfold dput; split <;> simp
end
abbrev kK (i : Int) : Key := Sum.inl i
abbrev kP (p : Int × Int) : List Key := [Sum.inl p.1, Sum.inl p.2]
theorem kK_inj (x y : Int) (h : kK x = kK y) : x = y := by cases h; rfl
theorem kP_inj (x y : Int × Int) (h : kP x = kP y) : x = y := by
  obtain ⟨a, b⟩ := x; obtain ⟨a', b'⟩ := y
  simp only [kP, List.cons.injEq, Sum.inl.injEq, and_true] at h
  rw [h.1, h.2]
theorem kkv_get (kvs : List (Int × V)) (k : Int) : valV (kkv kvs) (Sum.inl k) = dget kvs k := by
  have := dget_map kK kK_inj id k kvs
  simpa using this
theorem kkv_put (kvs : List (Int × V)) (k : Int) (v : V) : putK (kkv kvs) (Sum.inl k) v = kkv (dput kvs k v) := dput_map kK kK_inj id k v kvs
theorem kpv_get (kvs : List ((Int × Int) × Int)) (k : Int × Int) : valV (kpv kvs) (kP k) = (dget kvs k).map V.int := dget_map kP kP_inj V.int k kvs
theorem kpv_put (kvs : List ((Int × Int) × Int)) (k : Int × Int) (v : Int) : putK (kpv kvs) (kP k) (.int v) = kpv (dput kvs k v) := dput_map kP kP_inj V.int k v kvs
theorem iv_get (kvs : List (Int × Int)) (k : Int) : dget (iv kvs) k = (dget kvs k).map V.int := by
  induction kvs with
  | nil => rfl
  | cons p r ih => by_cases h : p.1 = k <;> simp [dget, h] at ih ⊢ <;> exact ih
theorem iv_put (kvs : List (Int × Int)) (k v : Int) : dput (iv kvs) k (.int v) = iv (dput kvs k v) := by
  have e : (iv kvs).any (fun p => decide (p.1 = k)) = kvs.any fun p => decide (p.1 = k) := by
    rw [List.any_map]; rfl
  unfold dput
  rw [e]
  split
  · show _ = (kvs.map _).map _
    rw [List.map_map, List.map_map]
    apply List.map_congr_left
    intro p _
    simp only [Function.comp]
    split <;> rfl
  · show _ = iv (kvs ++ [(k, v)])
    simp
section
variable {X : Cx} {c : Cc} {δ : List Sl} {a b e : Expr} {es : List Expr} {pos p2 : Pos} {m m1 m2 : Mo} {d d1 d2 : D} {S : G} {v : V}
theorem GoodH.dk (g : GoodH c S) {kvs : List (Int × V)} (r : ReM c S m v (.dk kvs)) : ∃ p, v = .ref p ∧ S.h p = some (.dK (kkv kvs)) := by
  have z := Good.now g r
  cases z with | dk h => exact ⟨_, rfl, h⟩
theorem GoodH.dp (g : GoodH c S) {kvs : List ((Int × Int) × Int)} (r : ReM c S m v (.dp kvs)) : ∃ p, v = .ref p ∧ S.h p = some (.dT (kpv kvs)) := by
  have z := Good.now g r
  cases z with | dp h => exact ⟨_, rfl, h⟩
theorem GoodH.pair (g : GoodH c S) {x y : Int} (r : ReM c S m v (.pk x y)) : ∃ p, v = .ref p ∧ S.h p = some (.tup ((kP (x, y)).map kV)) := by
  have z := Good.now g r
  cases z with | pk h => exact ⟨_, rfl, h⟩
variable {kvs : List (Int × V)} {kps : List ((Int × Int) × Int)} {i j : Int}
/-- a truth of a dict -/
theorem dt_inK (hu : X.A.units + 1 < cLine) (ha : DE X c m1 δ a (.int i)) (hb : DE X c m2 δ b (.dk kvs)) (hm : behindInMarks .In b = false := by rfl) : DT X c δ (.Compare a [.In] [b] pos) (dget kvs i).isSome :=
  DT.mkE ha.k (pt_cmp (pc_din hu ha.nf.pe hb.nf.pe) hm) fun S σ g Q q => ⟨S, rfl, g, fun x S1 l1 g1 r1 => ⟨S1, rfl, g1, fun y S2 l2 g2 r2 => by
    obtain ⟨p, e, h⟩ := g2.toGoodH.dk r2
    refine ⟨p, valV (kkv kvs) (.inl i), e, by rw [r1.intI]; exact DGet.k (k := .inl i) h, _, rfl, ?_⟩
    rw [kkv_get]
    exact q S2 (l1.trans l2) g2⟩⟩
theorem dt_ninK (hu : X.A.units + 1 < cLine) (ha : DE X c m1 δ a (.int i)) (hb : DE X c m2 δ b (.dk kvs)) (hm : behindInMarks .NotIn b = false := by rfl) : DT X c δ (.Compare a [.NotIn] [b] pos) (!(dget kvs i).isSome) :=
  DT.mkE ha.k (pt_cmp (pc_dnotin hu ha.nf.pe hb.nf.pe) hm) fun S σ g Q q => ⟨S, rfl, g, fun x S1 l1 g1 r1 => ⟨S1, rfl, g1, fun y S2 l2 g2 r2 => by
    obtain ⟨p, e, h⟩ := g2.toGoodH.dk r2
    refine ⟨p, valV (kkv kvs) (.inl i), e, by rw [r1.intI]; exact DGet.k (k := .inl i) h, _, rfl, ?_⟩
    rw [kkv_get]
    exact q S2 (l1.trans l2) g2⟩⟩
theorem dt_ninP (hu : X.A.units + 1 < cLine) (ha : DE X c m1 δ a (.pk i j)) (hb : DE X c m2 δ b (.dp kps)) (hm : behindInMarks .NotIn b = false := by rfl) : DT X c δ (.Compare a [.NotIn] [b] pos) (!(dget kps (i, j)).isSome) :=
  DT.mkE ha.k (pt_cmp (pc_dnotin hu ha.nf.pe hb.nf.pe) hm) fun S σ g Q q => ⟨S, rfl, g, fun x S1 l1 g1 r1 => ⟨S1, rfl, g1, fun y S2 l2 g2 r2 => by
    obtain ⟨p, e, h⟩ := g2.toGoodH.dp r2
    obtain ⟨p', e', h'⟩ := g2.toGoodH.pair (ReM.le l2 r1)
    refine ⟨p, valV (kpv kps) (kP (i, j)), e, by rw [e']; exact DGet.t (k := kP (i, j)) h h', _, rfl, ?_⟩
    rw [kpv_get, Option.isSome_map]
    exact q S2 (l1.trans l2) g2⟩⟩
/-- d[k] -/
theorem de_getK (hu : X.A.units + 1 < cLine) (ha : DE X c m1 δ a (.dk kvs)) (hb : DE X c m2 δ b (.int i)) (hs : NoSl b) {x : V} (hg : dget kvs i = some x) (hx : ∀ K C H, Re K C H x d) : DE X c .val δ (.Subscript a b pos) d :=
  DE.mkE ha.k (pe_dget hu ha.nf.pe hb.nf.pe hs) fun S σ g Q q => ⟨S, rfl, g, fun x1 S1 l1 g1 r1 => ⟨S1, rfl, g1, fun y S2 l2 g2 r2 => by
    obtain ⟨p, e, h⟩ := g2.toGoodH.dk (ReM.le l2 r1)
    refine ⟨p, x, e, ?_, q x S2 (l1.trans l2) g2 (hx _ _ _)⟩
    rw [r2.intI, ← hg, ← kkv_get]
    exact DGet.k (k := .inl i) h⟩⟩
theorem de_getI {kis : List (Int × Int)} {n : Int} (hu : X.A.units + 1 < cLine) (ha : DE X c m1 δ a (.dk (iv kis))) (hb : DE X c m2 δ b (.int i)) (hs : NoSl b) (hg : dget kis i = some n) : DE X c .val δ (.Subscript a b pos) (.int n) :=
  de_getK hu ha hb hs (x := .int n) (by rw [iv_get, hg]; rfl) fun _ _ _ => .int n
theorem de_getP {n : Int} (hu : X.A.units + 1 < cLine) (ha : DE X c m1 δ a (.dp kps)) (hb : DE X c m2 δ b (.pk i j)) (hs : NoSl b) (hg : dget kps (i, j) = some n) : DE X c .val δ (.Subscript a b pos) (.int n) :=
  DE.mkE ha.k (pe_dget hu ha.nf.pe hb.nf.pe hs) fun S σ g Q q => ⟨S, rfl, g, fun x1 S1 l1 g1 r1 => ⟨S1, rfl, g1, fun y S2 l2 g2 r2 => by
    obtain ⟨p, e, h⟩ := g2.toGoodH.dp (ReM.le l2 r1)
    obtain ⟨p', e', h'⟩ := g2.toGoodH.pair r2
    refine ⟨p, .int n, e, ?_, q _ S2 (l1.trans l2) g2 (.int n)⟩
    have z := DGet.t (k := kP (i, j)) h h'
    rw [kpv_get, hg] at z
    rw [e']
    exact z⟩⟩
end

/-! ### built-ins by name -/
def Cal (X : Cx) (c : Cc) (f : Value) (l : List (Mo × D)) (m : Mo) (d : D) : Prop :=
  ∃ r, CallR X f r ∧ ∀ δ S σ vs, Good c S σ δ → ReMs c S l vs → ∀ Q : VK, (∀ v S', Le c S S' → Good c S' σ δ → ReM c S' m v d → Q v S'.h) → r vs S.h Q
section
variable {X : Cx} {c : Cc} {δ : List Sl} {a b e : Expr} {es : List Expr} {pos p : Pos} {m m1 m2 : Mo} {d d1 d2 : D} {l : List (Mo × D)} {x : Str} {id T : String}
theorem de_callB (ha : DA X c δ (e :: es) l) (hc : Cal X c (.builtin id) l m d) (hg : Gl X x) (hm : X.mg x = none) (hv : bootBuiltins x = some (.builtin id)) (hn : x ≠ "__name__" := by decide) (hdb : (x == ("__debug__" : Str)) = false := by decide)
    (he : starEach (e :: es) X.env = (false, eval e X.env) :: starEach es X.env := by rfl) (hpl : (backTo pos (starEach es X.env)).any (·.1) = false := by rfl) : DE X c m δ (.Call (.Name x p) (e :: es) [] pos) d := by
  obtain ⟨r, hr, hq⟩ := hc
  exact DE.mkE ha.k (pe_callB hr hg hm hv ha.pa hn hdb he hpl) fun S σ g Q q => ⟨S, rfl, g, fun vs S1 l1 g1 r1 => hq δ S1 σ vs g1 r1 Q fun v S2 l2 g2 r2 => q v S2 (l1.trans l2) g2 r2⟩
theorem de_callTy (ha : DA X c δ (e :: es) l) (hc : Cal X c (.type T) l m d) (hg : Gl X x) (hm : X.mg x = none) (hv : bootBuiltins x = some (.type T)) (hn : x ≠ "__name__" := by decide) (hdb : (x == ("__debug__" : Str)) = false := by decide)
    (he : starEach (e :: es) X.env = (false, eval e X.env) :: starEach es X.env := by rfl) (hpl : (backTo pos (starEach es X.env)).any (·.1) = false := by rfl) : DE X c m δ (.Call (.Name x p) (e :: es) [] pos) d := by
  obtain ⟨r, hr, hq⟩ := hc
  exact DE.mkE ha.k (pe_callTy hr hg hm hv ha.pa hn hdb he hpl) fun S σ g Q q => ⟨S, rfl, g, fun vs S1 l1 g1 r1 => hq δ S1 σ vs g1 r1 Q fun v S2 l2 g2 r2 => q v S2 (l1.trans l2) g2 r2⟩
theorem ReMs.one {S : G} {m : Mo} {d : D} {vs : List V} (r : ReMs c S [(m, d)] vs) : ∃ v, vs = [v] ∧ ReM c S m v d := by
  cases r with | cons r t => cases t; exact ⟨_, rfl, r⟩
theorem ReMs.two {S : G} {m m' : Mo} {d d' : D} {vs : List V} (r : ReMs c S [(m, d), (m', d')] vs) : ∃ v w, vs = [v, w] ∧ ReM c S m v d ∧ ReM c S m' w d' := by
  cases r with | cons r t => cases t with | cons r' t => cases t; exact ⟨_, _, rfl, r, r'⟩
variable {ds : List D} {i j : Int} {ns : List Int} {kvs : List (Int × V)}
theorem c_lenL : Cal X c (.builtin "len") [(m1, .lst ds)] .val (.int ds.length) :=
  ⟨_, call_len_seq, fun δ S σ vs g rr Q q => by
    obtain ⟨v, rfl, r⟩ := rr.one
    obtain ⟨p, xs, rfl, h, hl, _⟩ := g.toGoodH.lst r
    exact ⟨p, xs, rfl, .inl (SqL.of h), hl ▸ q _ S (Le.refl c S) g (.int _)⟩⟩
theorem c_lenT : Cal X c (.builtin "len") [(m1, .tup ds)] .val (.int ds.length) :=
  ⟨_, call_len_seq, fun δ S σ vs g rr Q q => by
    obtain ⟨v, rfl, r⟩ := rr.one
    obtain ⟨p, xs, rfl, h, hl, _⟩ := g.toGoodH.tup r
    exact ⟨p, xs, rfl, .inr h.sq, hl ▸ q _ S (Le.refl c S) g (.int _)⟩⟩
theorem c_lenK : Cal X c (.builtin "len") [(m1, .dk kvs)] .val (.int kvs.length) :=
  ⟨_, call_lenD, fun δ S σ vs g rr Q q => by
    obtain ⟨v, rfl, r⟩ := rr.one
    obtain ⟨p, rfl, h⟩ := g.toGoodH.dk r
    refine ⟨p, _, rfl, h, ?_⟩
    have : ((kkv kvs).length : Int) = (kvs.length : Int) := by rw [List.length_map]
    rw [this]
    exact q _ S (Le.refl c S) g (.int _)⟩
def iabs (i : Int) : Int := if i < 0 then -i else i
theorem c_abs : Cal X c (.builtin "abs") [(m1, .int i)] .val (.int (iabs i)) :=
  ⟨_, call_abs, fun δ S σ vs g rr Q q => by
    obtain ⟨v, rfl, r⟩ := rr.one
    exact ⟨i, by rw [r.intI], q _ S (Le.refl c S) g (.int _)⟩⟩
theorem c_max2 (hc : X.calm = true) : Cal X c (.builtin "max") [(m1, .int i), (m2, .int j)] .val (.int (if j > i then j else i)) :=
  ⟨_, call_max2 hc, fun δ S σ vs g rr Q q => by
    obtain ⟨v, w, rfl, r, r'⟩ := rr.two
    exact ⟨i, j, by rw [r.intI, r'.intI], q _ S (Le.refl c S) g (.int _)⟩⟩
theorem c_min2 (hc : X.calm = true) : Cal X c (.builtin "min") [(m1, .int i), (m2, .int j)] .val (.int (if j < i then j else i)) :=
  ⟨_, call_min2 hc, fun δ S σ vs g rr Q q => by
    obtain ⟨v, w, rfl, r, r'⟩ := rr.two
    exact ⟨i, j, by rw [r.intI, r'.intI], q _ S (Le.refl c S) g (.int _)⟩⟩
theorem c_intB {k : Bool} : Cal X c (.type "int") [(m1, .bl k)] .val (.int (if k then 1 else 0)) :=
  ⟨_, call_int1, fun δ S σ vs g rr Q q => by
    obtain ⟨v, rfl, r⟩ := rr.one
    exact .inr ⟨k, by rw [r.blI], q _ S (Le.refl c S) g (.int _)⟩⟩
theorem c_tupL (h : stays m1 = true ∨ ds.all isAt = true) : Cal X c (.type "tuple") [(m1, .lst ds)] .val (.tup ds) :=
  ⟨_, call_tupF, fun δ S σ vs g rr Q q => by
    obtain ⟨v, rfl, r⟩ := rr.one
    obtain ⟨p, xs, rfl, hp, q1⟩ := g.toGoodH.lstS h r
    exact ⟨p, xs, rfl, .inl ⟨SqL.of hp, fun a ob ha hd => q (.ref a) (S.add a (.frz ob (.tup xs))) (Le.add g.exb ha) (g.add ha) (.tup ⟨ob, upd_same, hd⟩ (q1.mono (Ex.new (g.exb.none ha))))⟩⟩⟩
theorem c_tupT : Cal X c (.type "tuple") [(.val, .tup ds)] .val (.tup ds) :=
  ⟨_, call_tuple_of, fun δ S σ vs g rr Q q => by
    obtain ⟨v, rfl, r⟩ := rr.one
    obtain ⟨p, xs, rfl, hp, q1⟩ := Re.tupI r
    exact ⟨p, xs, rfl, .inr ⟨(hp.mono g.exb).sq, q _ S (Le.refl c S) g r⟩⟩⟩
theorem c_lstL (h : stays m1 = true ∨ ds.all isAt = true) : Cal X c (.type "list") [(m1, .lst ds)] .fr (.lst ds) :=
  ⟨_, call_list_of, fun δ S σ vs g rr Q q => by
    obtain ⟨v, rfl, r⟩ := rr.one
    obtain ⟨p, xs, rfl, hp, q1⟩ := g.toGoodH.lstS h r
    exact ⟨p, xs, rfl, .inl (SqL.of hp), fun a ha => q (.ref a) (S.addO a (.lst xs)) (Le.addO ha) (g.addO ha) (.lst (g.owNew ha) upd_same q1)⟩⟩
theorem c_lstT (h : stays m1 = true ∨ ds.all isAt = true) : Cal X c (.type "list") [(m1, .tup ds)] .fr (.lst ds) :=
  ⟨_, call_list_of, fun δ S σ vs g rr Q q => by
    obtain ⟨v, rfl, r⟩ := rr.one
    obtain ⟨p, xs, rfl, hp, q1⟩ := g.toGoodH.tupS h r
    exact ⟨p, xs, rfl, .inr hp.sq, fun a ha => q (.ref a) (S.addO a (.lst xs)) (Le.addO ha) (g.addO ha) (.lst (g.owNew ha) upd_same q1)⟩⟩
/-- a dict copied -/
theorem c_dict : Cal X c (.type "dict") [(m1, .dk kvs)] .fr (.dk kvs) :=
  ⟨_, call_dictD, fun δ S σ vs g rr Q q => by
    obtain ⟨v, rfl, r⟩ := rr.one
    obtain ⟨p, rfl, h⟩ := g.toGoodH.dk r
    exact ⟨p, _, rfl, .inl h, fun a ha => q (.ref a) (S.addO a (.dK (kkv kvs))) (Le.addO ha) (g.addO ha) (.dk (g.owNew ha) upd_same)⟩⟩
/-- the keys of a dict -/
theorem c_lstK (hc : X.calm = true) : Cal X c (.type "list") [(m1, .dk kvs)] .fr (.lst (kvs.map fun p => D.int p.1)) :=
  ⟨_, call_listD hc, fun δ S σ vs g rr Q q => by
    obtain ⟨v, rfl, r⟩ := rr.one
    obtain ⟨p, rfl, h⟩ := g.toGoodH.dk r
    refine ⟨p, _, rfl, .inl h, fun a ha => q (.ref a) (S.addO a (.lst _)) (Le.addO ha) (g.addO ha) (.lst (g.owNew ha) upd_same ?_)⟩
    have e : ((kkv kvs).map fun kv => kV kv.1) = (kvs.map (·.1)).map V.int := by
      rw [List.map_map, List.map_map]; rfl
    have e2 : (kvs.map fun p => D.int p.1) = (kvs.map (·.1)).map D.int := by rw [List.map_map]; rfl
    rw [e, e2]
    exact ReAll.ints⟩
theorem c_sum (hc : X.calm = true) : Cal X c (.builtin "sum") [(m1, .lst (ns.map D.int))] .val (.int ns.sum) :=
  ⟨_, cr_sum hc, fun δ S σ vs g rr Q q => by
    obtain ⟨v, rfl, r⟩ := rr.one
    obtain ⟨p, rfl, h⟩ := g.toGoodH.lstI r
    exact ⟨p, ns, rfl, SqL.of h, q _ S (Le.refl c S) g (.int _)⟩⟩
def imax : List Int → Int
  | [] => 0
  | [x] => x
  | x :: r => max x (imax r)
theorem imax_mem : ∀ {ns : List Int}, ns ≠ [] → imax ns ∈ ns ∧ ∀ y ∈ ns, y ≤ imax ns
  | [], h => absurd rfl h
  | [x], _ => ⟨List.mem_singleton.mpr rfl, fun y hy => by rw [List.mem_singleton.mp hy]; exact Int.le_refl _⟩
  | x :: y :: r, _ => by
    obtain ⟨h1, h2⟩ := imax_mem (ns := y :: r) (by simp)
    have e : imax (x :: y :: r) = max x (imax (y :: r)) := rfl
    rw [e]
    refine ⟨?_, fun z hz => ?_⟩
    · by_cases h : x ≤ imax (y :: r)
      · rw [Int.max_eq_right h]; exact List.mem_cons_of_mem _ h1
      · rw [Int.max_eq_left (by omega)]; exact List.mem_cons_self
    · rcases List.mem_cons.mp hz with rfl | hz
      · exact Int.le_max_left _ _
      · exact Int.le_trans (h2 z hz) (Int.le_max_right _ _)
theorem imax_eq {ns : List Int} {m : Int} (h : m ∈ ns) (h2 : ∀ y ∈ ns, y ≤ m) : m = imax ns := by
  have hne : ns ≠ [] := by rintro rfl; cases h
  obtain ⟨a, b⟩ := imax_mem hne
  exact Int.le_antisymm (b m h) (h2 _ a)
theorem c_maxL (hc : X.calm = true) (h0 : ns ≠ []) : Cal X c (.builtin "max") [(m1, .lst (ns.map D.int))] .val (.int (imax ns)) :=
  ⟨_, cr_max hc, fun δ S σ vs g rr Q q => by
    obtain ⟨v, rfl, r⟩ := rr.one
    obtain ⟨p, rfl, h⟩ := g.toGoodH.lstI r
    exact ⟨p, ns, rfl, SqL.of h, List.length_pos_iff.mpr h0, fun m h1 h2 => by rw [imax_eq h1 h2]; exact q _ S (Le.refl c S) g (.int _)⟩⟩
end
end Ov

/-! D-layer: attributes, targets, comprehensions, statements. -/
namespace Ov
open PySem L2

/-! ### attributes of an Arc -/
structure ArcC (K : PySem.W.Frag) (C : Addr) : Prop where
  cl : Cls K C
  row : NoAttr K C "row"
  turns : NoAttr K C "turns"
  old : NoAttr K C "old"
section
variable {X : Cx} {c : Cc} {δ : List Sl} {a b e : Expr} {es : List Expr} {pos p2 : Pos} {m m1 m2 : Mo} {d d1 d2 : D} {S : G} {v : V} {row : List Int} {turns : List (Int × Int)} {n : Int}
theorem GoodH.arc (g : GoodH c S) (r : ReM c S m v (.arc row turns n)) : ∃ a dx p q, v = .ref a ∧ S.h a = some (.ins c.C dx [("row", .ref p), ("turns", .ref q), ("old", .int n)]) ∧ S.h p = some (.lst (row.map V.int)) ∧ S.h q = some (.dK (kkv (iv turns))) := by
  have z := Good.now g r
  cases z with | arc h1 h2 h3 => exact ⟨_, _, _, _, rfl, h1, h2, h3⟩
theorem de_row (A : ArcC X.K c.C) (h : DE X c m δ e (.arc row turns n)) (hb : attributeBase e "row" X.env (eval e X.env) = eval e X.env) : DE X c .bor δ (.Attribute e "row" pos) (.lst (row.map D.int)) :=
  DE.mkE h.k (pe_fld h.pe hb) fun S σ g Q q => ⟨S, rfl, g, fun v S1 l1 g1 r1 => by
    obtain ⟨a, dx, p, r, rfl, h1, h2, h3⟩ := g1.toGoodH.arc r1
    exact ⟨a, c.C, dx, _, .ref p, rfl, h1, A.cl, A.row, rfl, q _ S1 l1 g1 (.lst h2 ReAll.ints)⟩⟩
theorem de_turns (A : ArcC X.K c.C) (h : DE X c m δ e (.arc row turns n)) (hb : attributeBase e "turns" X.env (eval e X.env) = eval e X.env) : DE X c .bor δ (.Attribute e "turns" pos) (.dk (iv turns)) :=
  DE.mkE h.k (pe_fld h.pe hb) fun S σ g Q q => ⟨S, rfl, g, fun v S1 l1 g1 r1 => by
    obtain ⟨a, dx, p, r, rfl, h1, h2, h3⟩ := g1.toGoodH.arc r1
    exact ⟨a, c.C, dx, _, .ref r, rfl, h1, A.cl, A.turns, rfl, q _ S1 l1 g1 (.dk h3)⟩⟩
theorem de_old_ (A : ArcC X.K c.C) (h : DE X c m δ e (.arc row turns n)) (hb : attributeBase e "old" X.env (eval e X.env) = eval e X.env) : DE X c .val δ (.Attribute e "old" pos) (.int n) :=
  DE.mkE h.k (pe_fld h.pe hb) fun S σ g Q q => ⟨S, rfl, g, fun v S1 l1 g1 r1 => by
    obtain ⟨a, dx, p, r, rfl, h1, h2, h3⟩ := g1.toGoodH.arc r1
    exact ⟨a, c.C, dx, _, .int n, rfl, h1, A.cl, A.old, rfl, q _ S1 l1 g1 (.int n)⟩⟩
end

/-! ### slots stored -/
theorem Good.len' {c : Cc} {S : G} {σ : St} {δ : List Sl} (g : Good c S σ δ) : σ.length = δ.length := g.len
theorem Good.put {c : Cc} {S : G} {σ : St} {δ : List Sl} (g : Good c S σ δ) {i : Nat} {v : V} {s : Sl} (h : SlOk c S (σ.set i (some v)) i s) : Good c S (σ.set i (some v)) (δ.set i s) where
  toGoodH := g.toGoodH
  len := by rw [List.length_set, List.length_set, g.len]
  sl := fun j t hj => by
    by_cases e : j = i
    · subst e
      have hl : j < δ.length := by
        obtain ⟨h1, _⟩ := List.getElem?_eq_some_iff.mp hj
        rw [List.length_set] at h1; exact h1
      rw [List.getElem?_set_self hl] at hj
      cases hj; exact h
    · rw [List.getElem?_set_ne (Ne.symm e)] at hj
      have q := g.sl j t hj
      cases t with
      | any => trivial
      | val d => obtain ⟨x, h1, h2⟩ := q; exact ⟨x, by rw [List.getElem?_set_ne (Ne.symm e)]; exact h1, h2⟩
      | bor d => obtain ⟨x, h1, h2⟩ := q; exact ⟨x, by rw [List.getElem?_set_ne (Ne.symm e)]; exact h1, h2⟩
      | own d => obtain ⟨x, h1, h2⟩ := q; exact ⟨x, by rw [List.getElem?_set_ne (Ne.symm e)]; exact h1, h2⟩
theorem set_at {σ : St} {i : Nat} {v : V} {n : Nat} (hl : σ.length = n) (h : i < n) : (σ.set i (some v))[i]? = some (some v) := by
  rw [List.getElem?_set_self (by omega)]
/-- by its mode -/
def stSl : Mo → D → Sl
  | .val, d => .val d
  | .old, d => cond (isAt d) (.val d) (.bor d)
  | .bor, d => cond (isAt d) (.val d) .any
  | .sh, d => cond (isAt d) (.val d) .any
  | .fr, _ => .any
theorem Good.putM {c : Cc} {S : G} {σ : St} {δ : List Sl} (g : Good c S σ δ) {i : Nat} {v : V} {d : D} {m : Mo} (hi : i < δ.length) (r : ReM c S m v d) : Good c S (σ.set i (some v)) (δ.set i (stSl m d)) := by
  refine g.put ?_
  have e := set_at (v := v) g.len hi
  have at_ : isAt d = true → SlOk c S (σ.set i (some v)) i (.val d) := fun h => ⟨v, e, r.at h rfl⟩
  cases m with
  | val => exact ⟨v, e, r⟩
  | old =>
    show SlOk c S (σ.set i (some v)) i (cond (isAt d) _ _)
    cases h : isAt d with
    | true => exact at_ h
    | false => exact ⟨v, e, r⟩
  | bor =>
    show SlOk c S (σ.set i (some v)) i (cond (isAt d) _ _)
    cases h : isAt d with
    | true => exact at_ h
    | false => trivial
  | sh =>
    show SlOk c S (σ.set i (some v)) i (cond (isAt d) _ _)
    cases h : isAt d with
    | true => exact at_ h
    | false => trivial
  | fr => trivial
theorem Good.setOwn {c : Cc} {S : G} {σ : St} {δ : List Sl} (g : Good c S σ δ) (p : Addr) (o o' : Option Nat) (ho : S.own p = o) (hno : ∀ i, o = some i → δ.length ≤ i) (hno' : ∀ i, o' = some i → ∀ s, δ[i]? = some s → ∀ d, s ≠ .own d) :
    Good c ⟨fun q => if q = p then o' else S.own q, S.b, S.h⟩ σ δ where
  toGoodH := ⟨g.ex0, g.exb, g.exi, g.fr⟩
  len := g.len
  sl := fun i s h => by
    have q := g.sl i s h
    cases s with
    | any => trivial
    | val d => exact q
    | bor d => exact q
    | own d =>
      obtain ⟨v, h1, r⟩ := q
      refine ⟨v, h1, ?_⟩
      have hi : i < δ.length := (List.getElem?_eq_some_iff.mp h).1
      have keep : ∀ x, Ow c S (some i) x → Ow c ⟨fun q => if q = p then o' else S.own q, S.b, S.h⟩ (some i) x := fun x w => by
        have : x ≠ p := fun z => by
          subst z
          rw [w.own] at ho
          have := hno i ho.symm
          omega
        exact ⟨by show (if x = p then o' else S.own x) = some i; rw [if_neg this]; exact w.own, w.b, w.h0⟩
      cases r with
      | lst w e r => exact .lst (keep _ w) e r
      | dk w e => exact .dk (keep _ w) e
      | dp w e => exact .dp (keep _ w) e
      | arc w1 w2 w3 w4 e0 e1 e2 e3 => exact .arc (keep _ w1) (keep _ w2) (keep _ w3) (keep _ w4) e0 e1 e2 e3
theorem Good.wipe1 {c : Cc} {S : G} {σ : St} {δ : List Sl} (g : Good c S σ δ) (i : Nat) : Good c S σ (δ.set i .any) where
  toGoodH := g.toGoodH
  len := by rw [List.length_set]; exact g.len
  sl := fun j t hj => by
    by_cases e : j = i
    · subst e
      have hl : j < δ.length := by
        obtain ⟨h1, _⟩ := List.getElem?_eq_some_iff.mp hj
        rw [List.length_set] at h1; exact h1
      rw [List.getElem?_set_self hl] at hj
      cases hj; trivial
    · rw [List.getElem?_set_ne (Ne.symm e)] at hj
      exact g.sl j t hj
theorem set_set_any {δ : List Sl} (i : Nat) (s : Sl) : (δ.set i .any).set i s = δ.set i s := by rw [List.set_set]
/-- what is fresh is stored: it is the slot's own -/
theorem Good.putO {c : Cc} {S : G} {σ : St} {δ : List Sl} (g : Good c S σ δ) {i : Nat} {v : V} {d : D} (hi : i < δ.length) (r : ReO c S none v d) : ∃ S', S'.h = S.h ∧ S'.b = S.b ∧ Good c S' (σ.set i (some v)) (δ.set i (.own d)) := by
  have g0 := g.wipe1 i
  have hi0 : i < (δ.set i Sl.any).length := by rw [List.length_set]; exact hi
  have no : ∀ (j : Nat), (none : Option Nat) = some j → (δ.set i Sl.any).length ≤ j := fun j z => by cases z
  have yes : ∀ j, some i = some j → ∀ s, (δ.set i Sl.any)[j]? = some s → ∀ d, s ≠ .own d := fun j z s hs d e => by
    cases z
    rw [List.getElem?_set_self hi] at hs
    cases hs; cases e
  have e := set_at (σ := σ) (v := v) (by rw [g.len]) hi
  cases r with
  | @lst p xs ds w h r =>
    refine ⟨⟨fun q => if q = p then some i else S.own q, S.b, S.h⟩, rfl, rfl, ?_⟩
    rw [← set_set_any i]
    refine (g0.setOwn p none (some i) w.own no yes).put ?_
    exact ⟨_, e, .lst ⟨if_pos rfl, w.b, w.h0⟩ h r⟩
  | @dk p kvs w h =>
    refine ⟨⟨fun q => if q = p then some i else S.own q, S.b, S.h⟩, rfl, rfl, ?_⟩
    rw [← set_set_any i]
    refine (g0.setOwn p none (some i) w.own no yes).put ?_
    exact ⟨_, e, .dk ⟨if_pos rfl, w.b, w.h0⟩ h⟩
  | @dp p kvs w h =>
    refine ⟨⟨fun q => if q = p then some i else S.own q, S.b, S.h⟩, rfl, rfl, ?_⟩
    rw [← set_set_any i]
    refine (g0.setOwn p none (some i) w.own no yes).put ?_
    exact ⟨_, e, .dp ⟨if_pos rfl, w.b, w.h0⟩ h⟩
  | @arc a dx p q row turns n w1 w2 w3 w4 h0 h1 h2 h3 =>
    have n0 : dx ≠ a := ne_of h0 h1 (by intro z; cases z)
    have n1 : p ≠ a := ne_of h2 h1 (by intro z; cases z)
    have n2 : q ≠ a := ne_of h3 h1 (by intro z; cases z)
    have n3 : q ≠ p := ne_of h3 h2 (by intro z; cases z)
    have n4 : p ≠ dx := ne_of h2 h0 (by intro z; cases z)
    have n5 : q ≠ dx := ne_of h3 h0 (by intro z; cases z)
    have s1 := g0.setOwn a none (some i) w1.own no yes
    have s2 := s1.setOwn dx none (some i) (by show (if dx = a then some i else S.own dx) = none; rw [if_neg n0]; exact w2.own) no yes
    have s3 := s2.setOwn p none (some i) (by show (if p = dx then some i else if p = a then some i else S.own p) = none; rw [if_neg n4, if_neg n1]; exact w3.own) no yes
    have s4 := s3.setOwn q none (some i) (by show (if q = p then some i else if q = dx then some i else if q = a then some i else S.own q) = none; rw [if_neg n3, if_neg n5, if_neg n2]; exact w4.own) no yes
    refine ⟨⟨fun x => if x = q then some i else if x = p then some i else if x = dx then some i else if x = a then some i else S.own x, S.b, S.h⟩, rfl, rfl, ?_⟩
    rw [← set_set_any i]
    refine Good.put s4 ?_
    refine ⟨_, e, .arc ⟨?_, w1.b, w1.h0⟩ ⟨?_, w2.b, w2.h0⟩ ⟨?_, w3.b, w3.h0⟩ ⟨?_, w4.b, w4.h0⟩ h0 h1 h2 h3⟩
    · show (if a = q then some i else if a = p then some i else if a = dx then some i else if a = a then some i else S.own a) = some i
      rw [if_neg n2.symm, if_neg n1.symm, if_neg n0.symm, if_pos rfl]
    · show (if dx = q then some i else if dx = p then some i else if dx = dx then some i else _) = some i
      rw [if_neg n5.symm, if_neg n4.symm, if_pos rfl]
    · show (if p = q then some i else if p = p then some i else _) = some i
      rw [if_neg n3.symm, if_pos rfl]
    · show (if q = q then some i else _) = some i
      rw [if_pos rfl]
/-- a thing of one's own changes -/
theorem Good.mut {c : Cc} {S : G} {σ : St} {δ : List Sl} (g : Good c S σ δ) {p : Addr} {j : Nat} {o : HO} (w : Ow c S (some j) p) (hj : δ.length ≤ j) : Good c ⟨S.own, S.b, upd S.h p o⟩ σ δ where
  toGoodH := ⟨g.ex0.mut w.h0, g.exb.mut w.b, g.exi, g.fr⟩
  len := g.len
  sl := fun i s h => by
    have q := g.sl i s h
    cases s with
    | any => trivial
    | val d => exact q
    | bor d => exact q
    | own d =>
      obtain ⟨v, h1, r⟩ := q
      refine ⟨v, h1, ?_⟩
      have hi : i < δ.length := (List.getElem?_eq_some_iff.mp h).1
      have ne : ∀ x, Ow c S (some i) x → x ≠ p := fun x w' z => by
        subst z
        have := w'.own.symm.trans w.own
        cases this; omega
      have kp : ∀ {x u}, Ow c S (some i) x → S.h x = some u → upd S.h p o x = some u := fun {x u} w' e => by rw [upd_ne (ne x w')]; exact e
      have ow : ∀ {x}, Ow c S (some i) x → Ow c ⟨S.own, S.b, upd S.h p o⟩ (some i) x := fun w' => ⟨w'.own, w'.b, w'.h0⟩
      cases r with
      | lst w' e r => exact .lst (ow w') (kp w' e) r
      | dk w' e => exact .dk (ow w') (kp w' e)
      | dp w' e => exact .dp (ow w') (kp w' e)
      | arc w1 w2 w3 w4 e0 e1 e2 e3 => exact .arc (ow w1) (ow w2) (ow w3) (ow w4) (kp w2 e0) (kp w1 e1) (kp w3 e2) (kp w4 e3)
/-- .. of a slot: the slot's data change -/
theorem Good.mutAt {c : Cc} {S : G} {σ : St} {δ : List Sl} (g : Good c S σ δ) {i : Nat} {d' : D} {v : V} {p : Addr} {o : HO} (hi : i < δ.length) (w : Ow c S (some i) p) (hv : σ[i]? = some (some v))
    (r : ReO c ⟨S.own, S.b, upd S.h p o⟩ (some i) v d') : Good c ⟨S.own, S.b, upd S.h p o⟩ σ (δ.set i (.own d')) where
  toGoodH := ⟨g.ex0.mut w.h0, g.exb.mut w.b, g.exi, g.fr⟩
  len := by rw [List.length_set]; exact g.len
  sl := fun j s h => by
    by_cases e : j = i
    · subst e
      rw [List.getElem?_set_self hi] at h
      cases h
      exact ⟨v, hv, r⟩
    · rw [List.getElem?_set_ne (Ne.symm e)] at h
      have q := g.sl j s h
      cases s with
      | any => trivial
      | val d => exact q
      | bor d => exact q
      | own d =>
        obtain ⟨v, h1, r⟩ := q
        refine ⟨v, h1, ?_⟩
        have ne : ∀ x, Ow c S (some j) x → x ≠ p := fun x w' z => by
          subst z
          have := w'.own.symm.trans w.own
          cases this; exact e rfl
        have kp : ∀ {x u}, Ow c S (some j) x → S.h x = some u → upd S.h p o x = some u := fun {x u} w' e => by rw [upd_ne (ne x w')]; exact e
        have ow : ∀ {x}, Ow c S (some j) x → Ow c ⟨S.own, S.b, upd S.h p o⟩ (some j) x := fun w' => ⟨w'.own, w'.b, w'.h0⟩
        cases r with
        | lst w' e r => exact .lst (ow w') (kp w' e) r
        | dk w' e => exact .dk (ow w') (kp w' e)
        | dp w' e => exact .dp (ow w') (kp w' e)
        | arc w1 w2 w3 w4 e0 e1 e2 e3 => exact .arc (ow w1) (ow w2) (ow w3) (ow w4) (kp w2 e0) (kp w1 e1) (kp w3 e2) (kp w4 e3)
/-- what is of one's own comes to stay -/
theorem Good.freeze {c : Cc} {S : G} {σ : St} {δ : List Sl} (g : Good c S σ δ) {i : Nat} {d : D} (h : δ[i]? = some (.own d)) : ∃ S', S'.h = S.h ∧ Ex S.b S'.b ∧ Good c S' σ (δ.set i (.val d)) := by
  have hi : i < δ.length := (List.getElem?_eq_some_iff.mp h).1
  obtain ⟨v, hv, r⟩ := g.sl i _ h
  have g0 := g.wipe1 i
  -- its addresses are no slot's any more
  have away : ∀ (S : G) (p : Addr), Good c S σ (δ.set i .any) → S.own p = some i → Good c ⟨fun q => if q = p then none else S.own q, S.b, S.h⟩ σ (δ.set i .any) := fun S p g1 ho => by
    refine ⟨⟨g1.ex0, g1.exb, g1.exi, g1.fr⟩, g1.len, fun j s hj => ?_⟩
    have q := g1.sl j s hj
    cases s with
    | any => trivial
    | val d => exact q
    | bor d => exact q
    | own d =>
      obtain ⟨v, h1, r⟩ := q
      refine ⟨v, h1, ?_⟩
      have hji : j ≠ i := fun z => by
        subst z
        rw [List.getElem?_set_self hi] at hj
        cases hj
      have keep : ∀ x, Ow c S (some j) x → Ow c ⟨fun q => if q = p then none else S.own q, S.b, S.h⟩ (some j) x := fun x w => by
        have : x ≠ p := fun z => by
          subst z
          rw [w.own] at ho
          cases ho; exact hji rfl
        exact ⟨by show (if x = p then none else S.own x) = some j; rw [if_neg this]; exact w.own, w.b, w.h0⟩
      cases r with
      | lst w e r => exact .lst (keep _ w) e r
      | dk w e => exact .dk (keep _ w) e
      | dp w e => exact .dp (keep _ w) e
      | arc w1 w2 w3 w4 e0 e1 e2 e3 => exact .arc (keep _ w1) (keep _ w2) (keep _ w3) (keep _ w4) e0 e1 e2 e3
  have fin : ∀ (S' : G), Good c S' σ (δ.set i .any) → Re c.K c.C S'.b v d → Good c S' σ (δ.set i (.val d)) := fun S' g1 rr => by
    refine ⟨g1.toGoodH, by rw [List.length_set]; exact g.len, fun j s hj => ?_⟩
    by_cases e : j = i
    · subst e
      rw [List.getElem?_set_self hi] at hj
      cases hj
      exact ⟨v, hv, rr⟩
    · rw [List.getElem?_set_ne (Ne.symm e)] at hj
      exact g1.sl j s (by rw [List.getElem?_set_ne (Ne.symm e)]; exact hj)
  cases r with
  | @lst p xs ds w e r =>
    have g1 := away S p g0 w.own
    obtain ⟨S', h1, l, g2, r2⟩ := g1.toVal (v := .ref p) (d := .lst ds) (.lst ⟨if_pos rfl, w.b, w.h0⟩ e r)
    exact ⟨S', h1, l.b, fin S' g2 r2⟩
  | @dk p kvs w e =>
    have g1 := away S p g0 w.own
    obtain ⟨S', h1, l, g2, r2⟩ := g1.toVal (v := .ref p) (d := .dk kvs) (.dk ⟨if_pos rfl, w.b, w.h0⟩ e)
    exact ⟨S', h1, l.b, fin S' g2 r2⟩
  | @dp p kvs w e =>
    have g1 := away S p g0 w.own
    obtain ⟨S', h1, l, g2, r2⟩ := g1.toVal (v := .ref p) (d := .dp kvs) (.dp ⟨if_pos rfl, w.b, w.h0⟩ e)
    exact ⟨S', h1, l.b, fin S' g2 r2⟩
  | @arc a dx p q row turns n w1 w2 w3 w4 h0 h1 h2 h3 =>
    have n0 : dx ≠ a := ne_of h0 h1 (by intro z; cases z)
    have n1 : p ≠ a := ne_of h2 h1 (by intro z; cases z)
    have n2 : q ≠ a := ne_of h3 h1 (by intro z; cases z)
    have n3 : q ≠ p := ne_of h3 h2 (by intro z; cases z)
    have n4 : p ≠ dx := ne_of h2 h0 (by intro z; cases z)
    have n5 : q ≠ dx := ne_of h3 h0 (by intro z; cases z)
    have s1 := away S a g0 w1.own
    have s2 := away _ dx s1 (by show (if dx = a then none else S.own dx) = some i; rw [if_neg n0]; exact w2.own)
    have s3 := away _ p s2 (by show (if p = dx then none else if p = a then none else S.own p) = some i; rw [if_neg n4, if_neg n1]; exact w3.own)
    have s4 := away _ q s3 (by show (if q = p then none else if q = dx then none else if q = a then none else S.own q) = some i; rw [if_neg n3, if_neg n5, if_neg n2]; exact w4.own)
    obtain ⟨S', h1', l, g2, r2⟩ := s4.toVal (v := .ref a) (d := .arc row turns n) (.arc ⟨by
      show (if a = q then none else if a = p then none else if a = dx then none else if a = a then none else S.own a) = none
      rw [if_neg n2.symm, if_neg n1.symm, if_neg n0.symm, if_pos rfl], w1.b, w1.h0⟩ ⟨by
      show (if dx = q then none else if dx = p then none else if dx = dx then none else _) = none
      rw [if_neg n5.symm, if_neg n4.symm, if_pos rfl], w2.b, w2.h0⟩ ⟨by
      show (if p = q then none else if p = p then none else _) = none
      rw [if_neg n3.symm, if_pos rfl], w3.b, w3.h0⟩ ⟨by
      show (if q = q then none else _) = none
      rw [if_pos rfl], w4.b, w4.h0⟩ h0 h1 h2 h3)
    exact ⟨S', h1', l.b, fin S' g2 r2⟩
end Ov

/-! D-layer: targets, comprehensions. -/
namespace Ov
open PySem L2

/-! ### targets -/
inductive Tgt where
  | nm (j : Nat) | pr (i j : Nat)
def Tgt.g (K : PySem.W.Frag) : Tgt → TG
  | .nm j => gName j
  | .pr i j => gTup K 2 (gCons (gName i) (gCons (gName j) gNil))
def Tgt.set : Tgt → Mo → D → List Sl → List Sl
  | .nm j, m, d, δ => δ.set j (stSl m d)
  | .pr i j, m, .tup [d1, d2], δ => (δ.set i (stSl (itMo m) d1)).set j (stSl (itMo m) d2)
  | .pr _ _, _, _, δ => δ
def Tgt.ok : Tgt → D → Nat → Prop
  | .nm j, _, n => j < n
  | .pr i j, .tup [_, _], n => i < n ∧ j < n
  | .pr _ _, _, _ => False
def Tgt.ws : Tgt → List Nat
  | .nm j => [j]
  | .pr i j => [i, j]
theorem wipe_len (σ : St) (vs : List Nat) : (wipe σ vs).length = σ.length := wipe_length σ vs
theorem wipe_comm (σ : St) (j : Nat) (o : Option V) : ∀ vs : List Nat, j ∈ vs → wipe (σ.set j o) vs = wipe σ vs
  | v :: vs, h => by
    unfold wipe
    by_cases e : j ∈ vs
    · rw [wipe_comm σ j o vs e]
    · have : j = v := by
        rcases List.mem_cons.mp h with h | h
        · exact h
        · exact absurd h e
      subst this
      have hn : ∀ vs : List Nat, j ∉ vs → wipe (σ.set j o) vs = (wipe σ vs).set j o := by
        intro vs
        induction vs with
        | nil => intro _; rfl
        | cons w vs ih =>
          intro hw
          unfold wipe
          rw [ih fun z => hw (List.mem_cons_of_mem _ z), List.set_comm _ _ (fun z => hw (by rw [z]; exact List.mem_cons_self))]
      rw [hn vs e, List.set_set]
def wipeD (δ : List Sl) : List Nat → List Sl
  | [] => δ
  | v :: vs => (wipeD δ vs).set v .any
theorem wipeD_len (δ : List Sl) : ∀ vs, (wipeD δ vs).length = δ.length
  | [] => rfl
  | v :: vs => by unfold wipeD; rw [List.length_set, wipeD_len δ vs]
theorem Good.wipe {c : Cc} {S : G} {σ : St} {δ : List Sl} (g : Good c S σ δ) : ∀ vs, Good c S (L2.wipe σ vs) (wipeD δ vs)
  | [] => g
  | v :: vs => by
    have ih := g.wipe vs
    unfold L2.wipe wipeD
    refine ⟨ih.toGoodH, by rw [List.length_set, List.length_set]; exact ih.len, fun j s hj => ?_⟩
    by_cases e : j = v
    · subst e
      have hl : j < (wipeD δ vs).length := by
        obtain ⟨h1, _⟩ := List.getElem?_eq_some_iff.mp hj
        rw [List.length_set] at h1; exact h1
      rw [List.getElem?_set_self hl] at hj
      cases hj; trivial
    · rw [List.getElem?_set_ne (Ne.symm e)] at hj
      have q := ih.sl j s hj
      cases s with
      | any => trivial
      | val d => obtain ⟨x, h1, h2⟩ := q; exact ⟨x, by rw [List.getElem?_set_ne (Ne.symm e)]; exact h1, h2⟩
      | bor d => obtain ⟨x, h1, h2⟩ := q; exact ⟨x, by rw [List.getElem?_set_ne (Ne.symm e)]; exact h1, h2⟩
      | own d => obtain ⟨x, h1, h2⟩ := q; exact ⟨x, by rw [List.getElem?_set_ne (Ne.symm e)]; exact h1, h2⟩
theorem Tgt.run (t : Tgt) {c : Cc} {S : G} {σ : St} {δ : List Sl} {m : Mo} {x : V} {d : D} {K : PySem.W.Frag} (g : Good c S σ δ) (r : ReM c S m x d) (ho : t.ok d δ.length) {Q : St → Hp → Prop}
    (q : ∀ σ2, Good c S σ2 (t.set m d δ) → (∀ vs, (∀ w ∈ t.ws, w ∈ vs) → L2.wipe σ2 vs = L2.wipe σ vs) → Q σ2 S.h) : t.g K x σ S.h Q := by
  cases t with
  | nm j => exact q _ (g.putM ho r) fun vs h => wipe_comm σ j _ vs (h j List.mem_cons_self)
  | pr i j =>
    cases d with
    | tup ds =>
      match ds, ho with
      | [d1, d2], ho =>
        obtain ⟨p, xs, e, hp, hl, hx⟩ := g.toGoodH.tup r
        match xs, hl with
        | [x1, x2], _ =>
          have r1 := hx 0 d1 x1 rfl rfl
          have r2 := hx 1 d2 x2 rfl rfl
          refine ⟨p, [x1, x2], e, hp.sq, rfl, x1, [x2], rfl, x2, [], rfl, rfl, ?_⟩
          have g1 := g.putM (i := i) ho.1 r1
          have g2 := g1.putM (i := j) (by rw [List.length_set]; exact ho.2) r2
          exact q _ g2 fun vs h => (wipe_comm _ j _ vs (h j (by simp [Tgt.ws]))).trans (wipe_comm σ i _ vs (h i (by simp [Tgt.ws])))
    | _ => exact ho.elim
/-- a target of the text -/
structure DG (X : Cx) (tg : Expr) (t : Tgt) : Prop where
  pg : PG X tg (t.g X.K)
theorem dg_nm {X : Cx} {j : Nat} {x : Str} {pos : Pos} (hN : X.N.Nodup) (hi : X.N[j]? = some x) (hx : Loc X.env.scope x) (hf : X.fn x = true ∨ X.env.scope.names.lookup x = some .local := by first | exact .inl rfl | exact .inr rfl | assumption) : DG X (.Name x pos) (.nm j) := ⟨pg_name hN hi hx hf⟩
theorem dg_pr {X : Cx} {i j : Nat} {x y : Str} {p1 p2 pos : Pos} {k : Nat} (hc : X.calm = true) (hN : X.N.Nodup) (hi : X.N[i]? = some x) (hx : Loc X.env.scope x) (hj : X.N[j]? = some y) (hy : Loc X.env.scope y)
    (hf : X.fn x = true ∨ X.env.scope.names.lookup x = some .local := by first | exact .inl rfl | exact .inr rfl | assumption) (hf2 : X.fn y = true ∨ X.env.scope.names.lookup y = some .local := by first | exact .inl rfl | exact .inr rfl | assumption)
    (hs : (assignEach [.Name x p1, .Name y p2] X.env).map (·.2) = assign (.Name x p1) X.env :: (assignEach [.Name y p2] X.env).map (·.2) := by rfl) (hs2 : (assignEach [.Name y p2] X.env).map (·.2) = assign (.Name y p2) X.env :: (assignEach [] X.env).map (·.2) := by rfl)
    (hn : (assignEach [.Name x p1, .Name y p2] X.env).length = 2 := by rfl) (hst : (assignEach [.Name x p1, .Name y p2] X.env).findIdx? (·.1) = none := by rfl) : DG X (.Tuple [.Name x p1, .Name y p2] k pos) (.pr i j) :=
  ⟨pg_tup hc (pgs_cons (pg_name hN hi hx hf) (pgs_cons (pg_name hN hj hy hf2) pgs_nil hs2) hs) hn hst⟩

/-! ### comprehensions -/
section
variable {X : Cx} {c : Cc} {δ : List Sl} {elt iter tgE cnd : Expr} {ifs : List Expr} {scope : Scope} {own : List (Str × Nat)} {pos : Pos} {m m' : Mo} {α : Type} {enc : α → D} {ns : List α} {t : α → Bool} {f : α → D} {tg : Tgt}
theorem PE.any {X : Cx} {e : Expr} {ι : Type} {P : ι → Prop} {t : ι → TE} (h : ∀ i, P i → PE X e (t i)) : PE X e (fun σ H Q => ∃ i, P i ∧ t i σ H Q) := ⟨fun pins s σ H Q I ⟨i, p, w⟩ => (h i p).run pins s σ H Q I w⟩
theorem PT.any {X : Cx} {e : Expr} {ι : Type} {P : ι → Prop} {t : ι → TT} (h : ∀ i, P i → PT X e (t i)) : PT X e (fun σ H Q => ∃ i, P i ∧ t i σ H Q) := ⟨fun pins s σ H Q I ⟨i, p, w⟩ => (h i p).run pins s σ H Q I w⟩
/-- the state of a comprehension: what is made so far stands at D -/
def LcI (c : Cc) (S : G) (σw : St) (δw : List Sl) (D : Addr) (rs : List Ov.D) (H : Hp) : Prop :=
  ∃ S', S'.h = H ∧ Le c S S' ∧ Good c S' σw δw ∧ Ow c S' (some δw.length) D ∧ ∃ acc, S'.h D = some (.lst acc) ∧ ReAll c.K c.C S'.b acc rs
theorem LcI.start {S : G} {σw : St} {δw : List Sl} {D : Addr} (g : Good c S σw δw) (h : S.h D = none) : LcI c S σw δw D [] (upd S.h D (.lst [])) := by
  have g1 := g.addO (o := .lst []) h
  have g2 := g1.setOwn D none (some δw.length) (if_pos rfl) (fun j z => by cases z) (fun j z s hs d e => by
    cases z
    have := (List.getElem?_eq_some_iff.mp hs).1
    omega)
  refine ⟨⟨fun q => if q = D then some δw.length else (S.addO D (.lst [])).own q, S.b, upd S.h D (.lst [])⟩, rfl, ⟨Ex.refl _, Ex.new h, fun p hp => ?_, fun p hp hb _ => hb⟩, g2, ⟨if_pos rfl, g.exb.none h, g.ex0.none h⟩, [], upd_same, .nil⟩
  have : p ≠ D := fun z => hp (by rw [z]; exact h)
  show (if p = D then _ else if p = D then _ else S.own p) = S.own p
  rw [if_neg this, if_neg this]
theorem LcI.more {S : G} {σw : St} {δw : List Sl} {D : Addr} {rs : List Ov.D} {r : Ov.D} {S' : G} {y : V} (l : Le c S S') (g : Good c S' σw δw) (w : Ow c S' (some δw.length) D) {acc : List V} (h : S'.h D = some (.lst acc)) (hr : ReAll c.K c.C S'.b acc rs) (ry : Re c.K c.C S'.b y r) (h0 : S.h D = none) :
    LcI c S σw δw D (rs ++ [r]) (upd S'.h D (.lst (acc ++ [y]))) :=
  ⟨⟨S'.own, S'.b, upd S'.h D (.lst (acc ++ [y]))⟩, rfl, ⟨l.b, l.h.mut h0, l.own, l.nb⟩, g.mut w (Nat.le_refl _), ⟨w.own, w.b, w.h0⟩, acc ++ [y], upd_same, hr.append (.cons ry .nil)⟩
/-- one turn, kept or not -/
theorem lc_turn {K : PySem.W.Frag} {S : G} {σw : St} {δw : List Sl} {D : Addr} {rs : List Ov.D} {H : Hp} {x : V} {a : α} {vs : List Nat} {tt : TT} {te : TE} (i : LcI c S σw δw D rs H) (h0 : S.h D = none) (hl : rs.length < 100000)
    (r : ReM c S (Ov.nf m) x (enc a)) (ho : tg.ok (enc a) δw.length) (hw : ∀ w ∈ tg.ws, w ∈ vs)
    (ht : ∀ σ2 S2 Q, Good c S2 σ2 (tg.set (Ov.nf m) (enc a) δw) → (∀ S', Le c S2 S' → Good c S' σ2 (tg.set (Ov.nf m) (enc a) δw) → Q (t a) S'.h) → tt σ2 S2.h Q)
    (he : t a = true → ∀ σ2 S2 Q, Good c S2 σ2 (tg.set (Ov.nf m) (enc a) δw) → (∀ v S', Le c S2 S' → Good c S' σ2 (tg.set (Ov.nf m) (enc a) δw) → Re c.K c.C S'.b v (f a) → Q v S'.h) → te σ2 S2.h Q) :
    tg.g K x σw H fun σ2 H2 => L2.wipe σ2 vs = L2.wipe σw vs ∧ tt σ2 H2 fun b H3 =>
      if b = true then te σ2 H3 fun y H4 => ∃ acc, H4 D = some (.lst acc) ∧ acc.length < sizeLine ∧ LcI c S σw δw D (if t a = true then rs ++ [f a] else rs) (upd H4 D (.lst (acc ++ [y]))) else LcI c S σw δw D (if t a = true then rs ++ [f a] else rs) H3 := by
  obtain ⟨S1, rfl, l1, g1, w1, acc, hD, hr⟩ := i
  refine tg.run g1 (ReM.le l1 r) ho fun σ2 g2 hwp => ⟨hwp vs hw, ?_⟩
  refine ht σ2 S1 _ g2 fun S2 l2 g3 => ?_
  have w2 := w1.le l2 (ne_some hD)
  have hD2 := l2.h _ _ hD
  cases hb : t a with
  | true =>
    show te σ2 S2.h fun y H4 => ∃ acc, H4 D = some (.lst acc) ∧ acc.length < sizeLine ∧ LcI c S σw δw D (rs ++ [f a]) (upd H4 D (.lst (acc ++ [y])))
    refine he hb σ2 S2 _ g3 fun v S3 l3 g4 rv => ?_
    have g5 : Good c S3 σw δw := g1.le (l2.trans l3) g4.exb
    refine ⟨acc, l3.h _ _ hD2, szl (by rw [hr.length]; exact hl), ?_⟩
    exact LcI.more ((l1.trans l2).trans l3) g5 (w2.le l3 (ne_some hD2)) (l3.h _ _ hD2) (hr.mono (l2.trans l3).b) rv h0
  | false =>
    show LcI c S σw δw D rs S2.h
    exact ⟨S2, rfl, l1.trans l2, g1.le l2 g3.exb, w2, acc, hD2, hr.mono l2.b⟩
theorem filt_succ (t : α → Bool) (f : α → Ov.D) {ns : List α} {i : Nat} {a : α} (h : ns[i]? = some a) : ((ns.take (i + 1)).filter t).map f = if t a = true then ((ns.take i).filter t).map f ++ [f a] else ((ns.take i).filter t).map f := by
  rw [List.take_add_one, h, Option.toList_some, List.filter_append, List.map_append]
  by_cases e : t a = true
  · rw [if_pos e, List.filter_cons, if_pos e]; rfl
  · rw [if_neg e, List.filter_cons, if_neg e]; simp
/-- its end: a fresh list -/
theorem LcI.done {S : G} {σ σw : St} {δ δw : List Sl} {D : Addr} {rs : List Ov.D} {H : Hp} (g : Good c S σ δ) (hl : δw.length = δ.length) (h0 : S.h D = none) (i : LcI c S σw δw D rs H) :
    ∃ S', S'.h = H ∧ Le c S S' ∧ Good c S' σ δ ∧ ReO c S' none (.ref D) (.lst rs) := by
  obtain ⟨S1, rfl, l1, g1, w1, acc, hD, hr⟩ := i
  have g2 : Good c S1 σ δ := g.le l1 g1.exb
  have g3 := g2.setOwn D (some δ.length) none (by rw [← hl]; exact w1.own) (fun j z => by cases z; exact Nat.le_refl _) (fun j z => by cases z)
  refine ⟨⟨fun q => if q = D then none else S1.own q, S1.b, S1.h⟩, rfl, ⟨l1.b, l1.h, fun p hp => ?_, l1.nb⟩, g3, .lst ⟨if_pos rfl, w1.b, w1.h0⟩ hD hr⟩
  have : p ≠ D := fun z => hp (by rw [z]; exact h0)
  show (if p = D then none else S1.own p) = S.own p
  rw [if_neg this]
  exact l1.own p hp

/-- the reading of a comprehension, by its source's walk -/
abbrev wOwn (own : List (Str × Nat)) : List Nat := own.map (·.2)
/-- the elements' and tests' readings over all items -/
abbrev eAll (c : Cc) (δw : List Sl) (tg : Tgt) (m : Mo) (enc : α → D) (ns : List α) (t : α → Bool) (f : α → D) : TE := fun σ H Q => ∃ a : α, (a ∈ ns ∧ t a = true) ∧ tE c .val (tg.set m (enc a) δw) (f a) σ H Q
abbrev tAll (c : Cc) (δw : List Sl) (tg : Tgt) (m : Mo) (enc : α → D) (ns : List α) (t : α → Bool) : TT := fun σ H Q => ∃ a : α, a ∈ ns ∧ tT c (tg.set m (enc a) δw) (t a) σ H Q

/-- the parts of a comprehension -/
structure LcP (X : Cx) (c : Cc) (δ : List Sl) (elt tgE : Expr) (ifs : List Expr) (scope : Scope) (own : List (Str × Nat)) (m : Mo) (enc : α → D) (ns : List α) (t : α → Bool) (f : α → D) (tg : Tgt) (tt : TT) : Prop where
  k : X.K = c.K
  calm : X.calm = true
  nd : X.N.Nodup
  ok : BlkOk X.N X.env.scope scope own
  tgs : ∀ (s : Shared) (H : Hp) (C : Addr) (cl : List (Str × Addr)) (fp : List Addr), DG (X.blk s H scope (compEnvC scope cl C X.env) fp) tgE tg
  tk : ∀ a ∈ ns, tg.ok (enc a) δ.length
  tw : ∀ w ∈ tg.ws, w ∈ own.map (·.2)
  ifs : ∀ (s : Shared) (H : Hp) (C : Addr) (cl : List (Str × Addr)) (fp : List Addr), PTs (X.blk s H scope (compEnvC scope cl C X.env) fp) ifs tt
  tt : ∀ a ∈ ns, ∀ σ2 S2 Q, Good c S2 σ2 (tg.set m (enc a) (wipeD δ (own.map (·.2)))) → (∀ S', Le c S2 S' → Good c S' σ2 (tg.set m (enc a) (wipeD δ (own.map (·.2)))) → Q (t a) S'.h) → tt σ2 S2.h Q
  el : ∀ a ∈ ns, t a = true → ∀ (s : Shared) (H : Hp) (C : Addr) (cl : List (Str × Addr)) (fp : List Addr), DE (X.blk s H scope (compEnvC scope cl C X.env) fp) c .val (tg.set m (enc a) (wipeD δ (own.map (·.2)))) elt (f a)
  sz : ns.length ≤ 100000
theorem lcp_no (k : X.K = c.K) (calm : X.calm = true) (nd : X.N.Nodup) (ok : BlkOk X.N X.env.scope scope own)
    (tgs : ∀ (s : Shared) (H : Hp) (C : Addr) (cl : List (Str × Addr)) (fp : List Addr), DG (X.blk s H scope (compEnvC scope cl C X.env) fp) tgE tg) (tk : ∀ a ∈ ns, tg.ok (enc a) δ.length) (tw : ∀ w ∈ tg.ws, w ∈ own.map (·.2))
    (el : ∀ a ∈ ns, ∀ (s : Shared) (H : Hp) (C : Addr) (cl : List (Str × Addr)) (fp : List Addr), DE (X.blk s H scope (compEnvC scope cl C X.env) fp) c .val (tg.set m (enc a) (wipeD δ (own.map (·.2)))) elt (f a)) (sz : ns.length ≤ 100000) :
    LcP X c δ elt tgE [] scope own m enc ns (fun _ => true) f tg tYes :=
  ⟨k, calm, nd, ok, tgs, tk, tw, fun _ _ _ _ _ => pts_nil, fun a ha σ2 S2 Q g q => q S2 (Le.refl c S2) g, fun a ha _ => el a ha, sz⟩
theorem lcp_if (k : X.K = c.K) (calm : X.calm = true) (nd : X.N.Nodup) (ok : BlkOk X.N X.env.scope scope own)
    (tgs : ∀ (s : Shared) (H : Hp) (C : Addr) (cl : List (Str × Addr)) (fp : List Addr), DG (X.blk s H scope (compEnvC scope cl C X.env) fp) tgE tg) (tk : ∀ a ∈ ns, tg.ok (enc a) δ.length) (tw : ∀ w ∈ tg.ws, w ∈ own.map (·.2))
    (ts : ∀ a ∈ ns, ∀ (s : Shared) (H : Hp) (C : Addr) (cl : List (Str × Addr)) (fp : List Addr), DT (X.blk s H scope (compEnvC scope cl C X.env) fp) c (tg.set m (enc a) (wipeD δ (own.map (·.2)))) cnd (t a))
    (el : ∀ a ∈ ns, t a = true → ∀ (s : Shared) (H : Hp) (C : Addr) (cl : List (Str × Addr)) (fp : List Addr), DE (X.blk s H scope (compEnvC scope cl C X.env) fp) c .val (tg.set m (enc a) (wipeD δ (own.map (·.2)))) elt (f a)) (sz : ns.length ≤ 100000) :
    LcP X c δ elt tgE [cnd] scope own m enc ns t f tg (tAll c (wipeD δ (own.map (·.2))) tg m enc ns t) :=
  ⟨k, calm, nd, ok, tgs, tk, tw, fun s H C cl fp => pts_one (PT.any fun a ha => (ts a ha s H C cl fp).pt), fun a ha σ2 S2 Q g q => ⟨a, ha, S2, rfl, g, q⟩, el, sz⟩
variable {tt : TT}
/-- from a walk's own lemma: the whole reading -/
theorem LcP.turns (P : LcP X c δ elt tgE ifs scope own (Ov.nf m) enc ns t f tg tt) {S : G} {σ : St} (g : Good c S σ δ) {D : Addr} (hD : S.h D = none) {i : Nat} {a : α} (ha : ns[i]? = some a) {x : V} (r : ReM c S (Ov.nf m) x (enc a)) {H : Hp}
    (h : LcI c S (L2.wipe σ (wOwn own)) (wipeD δ (wOwn own)) D (((ns.take i).filter t).map f) H) :
    tg.g X.K x (L2.wipe σ (wOwn own)) H fun σ2 H2 => L2.wipe σ2 (wOwn own) = L2.wipe σ (wOwn own) ∧ tt σ2 H2 fun b H3 =>
      if b = true then eAll c (wipeD δ (wOwn own)) tg (Ov.nf m) enc ns t f σ2 H3 fun y H4 => ∃ acc, H4 D = some (.lst acc) ∧ acc.length < sizeLine ∧
        LcI c S (L2.wipe σ (wOwn own)) (wipeD δ (wOwn own)) D (((ns.take (i + 1)).filter t).map f) (upd H4 D (.lst (acc ++ [y])))
      else LcI c S (L2.wipe σ (wOwn own)) (wipeD δ (wOwn own)) D (((ns.take (i + 1)).filter t).map f) H3 := by
  have hm := List.mem_of_getElem? ha
  have hi : i < ns.length := (List.getElem?_eq_some_iff.mp ha).1
  rw [filt_succ t f ha]
  have ww : L2.wipe (L2.wipe σ (wOwn own)) (wOwn own) = L2.wipe σ (wOwn own) := by
    have : ∀ (vs ws : List Nat), (∀ v ∈ vs, v ∈ ws) → L2.wipe (L2.wipe σ vs) ws = L2.wipe σ ws := by
      intro vs
      induction vs with
      | nil => intro ws _; rfl
      | cons v vs ih =>
        intro ws h
        show L2.wipe ((L2.wipe σ vs).set v none) ws = _
        rw [wipe_comm _ v none ws (h v List.mem_cons_self)]
        exact ih ws fun w hw => h w (List.mem_cons_of_mem _ hw)
    exact this _ _ fun v h => h
  have z := lc_turn (K := X.K) (tt := tt) (te := eAll c (wipeD δ (wOwn own)) tg (Ov.nf m) enc ns t f) (vs := wOwn own) h hD (by
    rw [List.length_map]
    have h1 := List.length_filter_le t (ns.take i)
    have h2 := P.sz
    rw [List.length_take] at h1
    omega) r (by rw [wipeD_len]; exact P.tk a hm) P.tw (fun σ2 S2 Q g2 q => P.tt a hm σ2 S2 Q g2 q) (fun hb σ2 S2 Q g2 q => ⟨a, ⟨hm, hb⟩, S2, rfl, g2, fun v S' l g' r' => q v S' l g' r'⟩)
  rw [ww] at z
  exact z
/-- the elements' judgement -/
theorem LcP.els (P : LcP X c δ elt tgE ifs scope own m enc ns t f tg tt) (s : Shared) (H : Hp) (C : Addr) (cl : List (Str × Addr)) (fp : List Addr) :
    PE (X.blk s H scope (compEnvC scope cl C X.env) fp) elt (eAll c (wipeD δ (own.map (·.2))) tg m enc ns t f) := PE.any fun a ha => (P.el a ha.1 ha.2 s H C cl fp).pe
/-- what a comprehension over a list, a tuple, a range is -/
theorem LcP.list (P : LcP X c δ elt tgE ifs scope own (itMo (Ov.nf m)) enc ns t f tg tt) (σ : St) (H : Hp) (Q : VK) (h : tE c .fr δ (.lst ((ns.filter t).map f)) σ H Q) (hm : nf (itMo (nf m)) = itMo (nf m)) :
    tLc (iList X.K (tE c (nf m) δ (.lst (ns.map enc)))) (tg.g X.K) tt (eAll c (wipeD δ (own.map (·.2))) tg (itMo (Ov.nf m)) enc ns t f) (own.map (·.2)) σ H Q := by
  obtain ⟨S, rfl, g, q⟩ := h
  refine ⟨S, rfl, g, fun v S1 l1 g1 r1 => ?_⟩
  obtain ⟨p, xs, rfl, hp, hlx, hx⟩ := g1.toGoodH.lst r1
  refine ⟨p, rfl, ⟨xs, SqL.of hp⟩, fun D hD => ?_⟩
  refine lc_list (xs := xs) (fun i H => LcI c S1 (L2.wipe σ (own.map (·.2))) (wipeD δ (own.map (·.2))) D (((ns.take i).filter t).map f) H) ?_ (fun i H _ hi => ?_) (fun i x H hxi hi => ?_) (fun H hi => ?_)
  · exact LcI.start (g1.wipe _) hD
  · obtain ⟨S2, rfl, l2, _⟩ := hi
    exact SqL.of (l2.h _ _ hp)
  · have hil : i < ns.length := by
      have := (List.getElem?_eq_some_iff.mp hxi).1
      rw [List.length_map] at hlx; omega
    have ha : ns[i]? = some ns[i] := List.getElem?_eq_getElem hil
    have r : ReM c S1 (itMo (nf m)) x (enc ns[i]) := hx i (enc ns[i]) x (by rw [List.getElem?_map, ha]; rfl) hxi
    rw [← hm] at r P ⊢
    exact P.turns g1 hD ha r hi
  · have e : ns.take xs.length = ns := List.take_of_length_le (by rw [hlx, List.length_map]; exact Nat.le_refl _)
    have hi : LcI c S1 _ _ D (((ns.take xs.length).filter t).map f) H := hi
    rw [e] at hi
    obtain ⟨S2, rfl, l2, g2, r2⟩ := LcI.done g1 (wipeD_len δ _) hD hi
    exact q _ S2 (l1.trans l2) g2 r2
theorem LcP.tup (P : LcP X c δ elt tgE ifs scope own (itMo (Ov.nf m)) enc ns t f tg tt) (σ : St) (H : Hp) (Q : VK) (h : tE c .fr δ (.lst ((ns.filter t).map f)) σ H Q) (hm : nf (itMo (nf m)) = itMo (nf m)) :
    tLc (iTup X.K (tE c (nf m) δ (.tup (ns.map enc)))) (tg.g X.K) tt (eAll c (wipeD δ (own.map (·.2))) tg (itMo (Ov.nf m)) enc ns t f) (own.map (·.2)) σ H Q := by
  obtain ⟨S, rfl, g, q⟩ := h
  refine ⟨S, rfl, g, fun v S1 l1 g1 r1 => ?_⟩
  obtain ⟨p, xs, rfl, hp, hlx, hx⟩ := g1.toGoodH.tup r1
  refine ⟨p, rfl, ⟨xs, hp.sq⟩, fun D hD => ?_⟩
  refine lc_tup (xs := xs) (fun i H => LcI c S1 (L2.wipe σ (own.map (·.2))) (wipeD δ (own.map (·.2))) D (((ns.take i).filter t).map f) H) ?_ (fun i H _ hi => ?_) (fun i x H hxi hi => ?_) (fun H hi => ?_)
  · exact LcI.start (g1.wipe _) hD
  · obtain ⟨S2, rfl, l2, _⟩ := hi
    exact (hp.mono l2.h).sq
  · have hil : i < ns.length := by
      have := (List.getElem?_eq_some_iff.mp hxi).1
      rw [List.length_map] at hlx; omega
    have ha : ns[i]? = some ns[i] := List.getElem?_eq_getElem hil
    have r : ReM c S1 (itMo (nf m)) x (enc ns[i]) := hx i (enc ns[i]) x (by rw [List.getElem?_map, ha]; rfl) hxi
    rw [← hm] at r P ⊢
    exact P.turns g1 hD ha r hi
  · have e : ns.take xs.length = ns := List.take_of_length_le (by rw [hlx, List.length_map]; exact Nat.le_refl _)
    have hi : LcI c S1 _ _ D (((ns.take xs.length).filter t).map f) H := hi
    rw [e] at hi
    obtain ⟨S2, rfl, l2, g2, r2⟩ := LcI.done g1 (wipeD_len δ _) hD hi
    exact q _ S2 (l1.trans l2) g2 r2
theorem LcP.rng {n : Int} (P : LcP X c δ elt tgE ifs scope own (Ov.nf .val) (fun i : Nat => D.int (i : Int)) (List.range n.toNat) t' f' tg tt) (hn : n ≤ 100000) (hn0 : -100000 ≤ n) (σ : St) (H : Hp) (Q : VK) (h : tE c .fr δ (.lst (((List.range n.toNat).filter t').map f')) σ H Q) :
    tLc (iRng1 (tA c δ [(m', .int n)])) (tg.g X.K) tt (eAll c (wipeD δ (own.map (·.2))) tg .val (fun i : Nat => D.int (i : Int)) (List.range n.toNat) t' f') (own.map (·.2)) σ H Q := by
  obtain ⟨S, rfl, g, q⟩ := h
  refine ⟨S, rfl, g, fun vs S1 l1 g1 r1 => ?_⟩
  obtain ⟨v, rfl, r⟩ := r1.one
  refine ⟨n, by rw [r.intI], by omega, by omega, fun D hD => ?_⟩
  refine lc_range (lo := 0) (n := n.toNat) (fun i H => LcI c S1 (L2.wipe σ (own.map (·.2))) (wipeD δ (own.map (·.2))) D ((((List.range n.toNat).take i).filter t').map f') H) ?_ (fun i H hi hI => ?_) (fun H hi => ?_)
  · exact LcI.start (g1.wipe _) hD
  · have ha : (List.range n.toNat)[i]? = some i := by rw [List.getElem?_range hi]
    have r : ReM c S1 (nf .val) (.int (0 + (i : Int))) (Ov.D.int (i : Int)) := by rw [Int.zero_add]; exact .int _
    exact P.turns (m := .val) g1 hD ha r hI
  · have e : (List.range n.toNat).take n.toNat = List.range n.toNat := List.take_of_length_le (by rw [List.length_range]; exact Nat.le_refl _)
    have hi : LcI c S1 _ _ D ((((List.range n.toNat).take n.toNat).filter t').map f') H := hi
    rw [e] at hi
    obtain ⟨S2, rfl, l2, g2, r2⟩ := LcI.done g1 (wipeD_len δ _) hD hi
    exact q _ S2 (l1.trans l2) g2 r2
end
end Ov

/-! D-layer: statements. -/
namespace Ov
open PySem L2

section
variable {X : Cx} {c : Cc} {δ : List Sl} {elt iter tgE cnd : Expr} {ifs : List Expr} {scope : Scope} {own : List (Str × Nat)} {pos : Pos} {m m' : Mo} {α : Type} {enc : α → D} {ns : List α} {t : α → Bool} {f : α → D} {tg : Tgt} {tt : TT}
theorem de_lcL (hi : DE X c m δ iter (.lst (ns.map enc))) (P : LcP X c δ elt tgE ifs scope own (itMo (nf m)) enc ns t f tg tt) (hm : nf (itMo (nf m)) = itMo (nf m) := by rfl) (hs : ∀ x, foldedSetIterable iter X.env x = pure x := by intro _; rfl) :
    DE X c .fr δ (.ListComp elt [⟨tgE, iter, ifs, 0⟩] scope pos) (.lst ((ns.filter t).map f)) :=
  ⟨hi.k, PE.imp (pe_lc P.calm P.nd (pi_list hi.nf.pe) P.ok (fun s H C cl fp => (P.tgs s H C cl fp).pg) P.ifs P.els hs) fun σ H Q h => P.list σ H Q h hm⟩
theorem de_lcT (hi : DE X c m δ iter (.tup (ns.map enc))) (P : LcP X c δ elt tgE ifs scope own (itMo (nf m)) enc ns t f tg tt) (hm : nf (itMo (nf m)) = itMo (nf m) := by rfl) (hs : ∀ x, foldedSetIterable iter X.env x = pure x := by intro _; rfl) :
    DE X c .fr δ (.ListComp elt [⟨tgE, iter, ifs, 0⟩] scope pos) (.lst ((ns.filter t).map f)) :=
  ⟨hi.k, PE.imp (pe_lc P.calm P.nd (pi_tup hi.nf.pe) P.ok (fun s H C cl fp => (P.tgs s H C cl fp).pg) P.ifs P.els hs) fun σ H Q h => P.tup σ H Q h hm⟩
theorem de_lcR {n : Int} {a : Expr} {p pos' : Pos} {t' : Nat → Bool} {f' : Nat → D} (hg : Gl X "range") (hmm : X.mg "range" = none) (hi : DE X c m δ a (.int n)) (P : LcP X c δ elt tgE ifs scope own .val (fun i : Nat => D.int (i : Int)) (List.range n.toNat) t' f' tg tt) (hn : n ≤ 100000) (hn0 : -100000 ≤ n)
    (hs : ∀ x, foldedSetIterable (.Call (.Name "range" p) [a] [] pos') X.env x = pure x := by intro _; rfl) (hs2 : starEach [a] X.env = [(false, eval a X.env)] := by rfl) (hs3 : starEach [a] X.env = (false, eval a X.env) :: starEach [] X.env := by rfl) :
    DE X c .fr δ (.ListComp elt [⟨tgE, .Call (.Name "range" p) [a] [] pos', ifs, 0⟩] scope pos) (.lst (((List.range n.toNat).filter t').map f')) :=
  ⟨hi.k, PE.imp (pe_lc P.calm P.nd (pi_range1 hg hmm (da_cons hi (da_nil hi.k) hs3).pa hs2) P.ok (fun s H C cl fp => (P.tgs s H C cl fp).pg) P.ifs P.els hs) fun σ H Q h => P.rng hn hn0 σ H Q h⟩
end

/-! ### statements -/
structure Po where
  nx : List Sl → Prop
  rt : Mo → D → Prop
  bk : List Sl → Prop := fun _ => False
  ct : List Sl → Prop := fun _ => False
  xc : Addr → Prop := fun _ => False
def sE (c : Cc) (W : WX) (δ : List Sl) (Φ : Po) : TS := fun D σ H => ∃ S, S.h = H ∧ Good c S σ δ ∧
  (∀ S' σ' δ', Ex S.b S'.b → Good c S' σ' δ' → Φ.nx δ' → D.nx σ' S'.h) ∧
  (∀ v m d S', Ex S.b S'.b → GoodH c S' → ReM c S' m v d → Φ.rt m d → D.rt v S'.h) ∧
  (∀ S' σ' δ', Ex S.b S'.b → Good c S' σ' δ' → Φ.bk δ' → D.bk σ' S'.h) ∧
  (∀ S' σ' δ', Ex S.b S'.b → Good c S' σ' δ' → Φ.ct δ' → D.ct σ' S'.h) ∧
  (∀ a S' σ', Ex S.b S'.b → GoodH c S' → Φ.xc a → W (.ref a) none σ' S'.h)
structure DS (X : Cx) (W : WX) (c : Cc) (δ : List Sl) (st : Stmt) (Φ : Po) : Prop where
  k : X.K = c.K
  ps : PS X st (sE c W δ Φ)
structure DSs (X : Cx) (W : WX) (c : Cc) (δ : List Sl) (st : List Stmt) (Φ : Po) : Prop where
  k : X.K = c.K
  ps : PSs X st (sE c W δ Φ)
theorem PS.imp {X : Cx} {e : Stmt} {t t' : TS} (h : PS X e t) (i : ∀ D σ H, t' D σ H → t D σ H) : PS X e t' := ⟨fun pins s σ H D I w => h.run pins s σ H D I (i D σ H w)⟩
theorem PSs.imp {X : Cx} {e : List Stmt} {t t' : TS} (h : PSs X e t) (i : ∀ D σ H, t' D σ H → t D σ H) : PSs X e t' := ⟨fun pins s σ H D I w => h.run pins s σ H D I (i D σ H w)⟩
theorem PSs.any {X : Cx} {e : List Stmt} {ι : Type} {P : ι → Prop} {t : ι → TS} (h : ∀ i, P i → PSs X e (t i)) : PSs X e (fun D σ H => ∃ i, P i ∧ t i D σ H) := ⟨fun pins s σ H D I ⟨i, p, w⟩ => (h i p).run pins s σ H D I w⟩

section
variable {X : Cx} {W : WX} {c : Cc} {δ : List Sl} {st : Stmt} {rest body els : List Stmt} {a b e cnd : Expr} {es : List Expr} {pos p1 p2 : Pos} {m m1 m2 : Mo} {d d1 d2 : D} {Φ Φ' : Po} {i : Nat} {x : Str} {k : Bool}
/-- the end's wishes are the smaller ones -/
theorem DSs.mono (h : DSs X W c δ rest Φ) (h1 : ∀ δ, Φ.nx δ → Φ'.nx δ) (h2 : ∀ m d, Φ.rt m d → Φ'.rt m d) (h3 : ∀ δ, Φ.bk δ → Φ'.bk δ) (h4 : ∀ δ, Φ.ct δ → Φ'.ct δ) (h5 : ∀ a, Φ.xc a → Φ'.xc a) : DSs X W c δ rest Φ' :=
  ⟨h.k, PSs.imp h.ps fun D σ H ⟨S, e, g, q1, q2, q3, q4, q5⟩ => ⟨S, e, g, fun S' σ' δ' l g' n => q1 S' σ' δ' l g' (h1 _ n), fun v m d S' l g' r n => q2 v m d S' l g' r (h2 _ _ n), fun S' σ' δ' l g' n => q3 S' σ' δ' l g' (h3 _ n), fun S' σ' δ' l g' n => q4 S' σ' δ' l g' (h4 _ n), fun a S' σ' l g' n => q5 a S' σ' l g' (h5 _ n)⟩⟩
theorem dss_nil (k : X.K = c.K) (h : Φ.nx δ) : DSs X W c δ [] Φ := ⟨k, PSs.imp pss_nil fun D σ H ⟨S, e, g, q1, _⟩ => e ▸ q1 S σ δ (Ex.refl _) g h⟩
theorem dss_cons {M : List Sl → Prop} (h : DS X W c δ st { Φ with nx := M }) (h2 : ∀ δ', M δ' → DSs X W c δ' rest Φ) : DSs X W c δ (st :: rest) Φ :=
  ⟨h.k, PSs.imp (pss_cons h.ps (PSs.any (ι := List Sl) (P := M) (t := fun δ' => sE c W δ' Φ) fun δ' hM => (h2 δ' hM).ps)) fun D σ H ⟨S, e, g, q1, q2, q3, q4, q5⟩ =>
    ⟨S, e, g, fun S' σ' δ' l g' n => ⟨δ', n, S', rfl, g', fun S2 σ2 δ2 l2 => q1 S2 σ2 δ2 (l.trans l2), fun v m d S2 l2 => q2 v m d S2 (l.trans l2), fun S2 σ2 δ2 l2 => q3 S2 σ2 δ2 (l.trans l2), fun S2 σ2 δ2 l2 => q4 S2 σ2 δ2 (l.trans l2), fun a S2 σ2 l2 => q5 a S2 σ2 (l.trans l2)⟩, q2, q3, q4, q5⟩⟩
/-- a statement of one end -/
theorem dss_seq {δ' : List Sl} (h : DS X W c δ st { Φ with nx := fun z => z = δ' }) (h2 : DSs X W c δ' rest Φ) : DSs X W c δ (st :: rest) Φ := dss_cons h fun z e => e ▸ h2
/-- what is of one's own comes to stay -/
theorem dss_frz (i : Nat) (hi : δ[i]? = some (.own d)) (h : DSs X W c (δ.set i (.val d)) rest Φ) : DSs X W c δ rest Φ :=
  ⟨h.k, PSs.imp h.ps fun D σ H ⟨S, e, g, q1, q2, q3, q4, q5⟩ => by
    obtain ⟨S1, e1, l1, g1⟩ := g.freeze hi
    exact ⟨S1, e1.trans e, g1, fun S' σ' δ' l => q1 S' σ' δ' (l1.trans l), fun v m d S' l => q2 v m d S' (l1.trans l), fun S' σ' δ' l => q3 S' σ' δ' (l1.trans l), fun S' σ' δ' l => q4 S' σ' δ' (l1.trans l), fun a S' σ' l => q5 a S' σ' (l1.trans l)⟩⟩
/-- a slot forgotten -/
theorem dss_any (i : Nat) (h : DSs X W c (δ.set i .any) rest Φ) : DSs X W c δ rest Φ :=
  ⟨h.k, PSs.imp h.ps fun D σ H ⟨S, e, g, q⟩ => ⟨S, e, g.wipe1 i, q⟩⟩
/-- the reading of a plain statement: its end's data -/
theorem DS.mkE (k : X.K = c.K) {t : TS} (h : PS X st t) (i : ∀ S σ, Good c S σ δ → ∀ D : Ends, (∀ S' σ' δ', Ex S.b S'.b → Good c S' σ' δ' → Φ.nx δ' → D.nx σ' S'.h) → (∀ v m d S', Ex S.b S'.b → GoodH c S' → ReM c S' m v d → Φ.rt m d → D.rt v S'.h) →
    (∀ S' σ' δ', Ex S.b S'.b → Good c S' σ' δ' → Φ.bk δ' → D.bk σ' S'.h) → (∀ S' σ' δ', Ex S.b S'.b → Good c S' σ' δ' → Φ.ct δ' → D.ct σ' S'.h) → (∀ a S' σ', Ex S.b S'.b → GoodH c S' → Φ.xc a → W (.ref a) none σ' S'.h) → t D σ S.h) : DS X W c δ st Φ :=
  ⟨k, PS.imp h fun D σ H ⟨S, e, g, q1, q2, q3, q4, q5⟩ => by subst e; exact i S σ g D q1 q2 q3 q4 q5⟩

/-! names -/
theorem ds_set (h : DE X c m δ e d) (hv : canVal m d = true) (hN : X.N.Nodup) (hx : X.N[i]? = some x) (hl : Loc X.env.scope x) (hi : i < δ.length) (hn : Φ.nx (δ.set i (.val d))) (hs : swapsWith e (some (.Name x p1)) pos.line X.env = pure false := by rfl)
    (hf : X.fn x = true ∨ X.env.scope.names.lookup x = some .local := by first | exact .inl rfl | exact .inr rfl | assumption) : DS X W c δ (.Assign [.Name x p1] e pos) Φ :=
  DS.mkE h.k (ps_set hN hx hl (h.val hv).pe hs hf) fun S σ g D q1 _ _ _ _ => ⟨S, rfl, g, fun v S1 l1 g1 r1 => q1 S1 _ _ l1.b (g1.putM (m := .val) hi r1) hn⟩
theorem ds_setE {d' : D} (h : DE X c m δ e d) (hv : canVal m d = true) (he : d = d') (hN : X.N.Nodup) (hx : X.N[i]? = some x) (hl : Loc X.env.scope x) (hi : i < δ.length) (hn : Φ.nx (δ.set i (.val d'))) (hs : swapsWith e (some (.Name x p1)) pos.line X.env = pure false := by rfl)
    (hf : X.fn x = true ∨ X.env.scope.names.lookup x = some .local := by first | exact .inl rfl | exact .inr rfl | assumption) : DS X W c δ (.Assign [.Name x p1] e pos) Φ := ds_set h hv hN hx hl hi (he ▸ hn) hs hf
theorem ds_setB (h : DE X c .old δ e d) (hN : X.N.Nodup) (hx : X.N[i]? = some x) (hl : Loc X.env.scope x) (hi : i < δ.length) (hn : Φ.nx (δ.set i (.bor d))) (hs : swapsWith e (some (.Name x p1)) pos.line X.env = pure false := by rfl)
    (hf : X.fn x = true ∨ X.env.scope.names.lookup x = some .local := by first | exact .inl rfl | exact .inr rfl | assumption) : DS X W c δ (.Assign [.Name x p1] e pos) Φ :=
  DS.mkE h.k (ps_set hN hx hl h.pe hs hf) fun S σ g D q1 _ _ _ _ => ⟨S, rfl, g, fun v S1 l1 g1 r1 => q1 S1 _ _ l1.b (g1.put (s := .bor d) ⟨v, set_at g1.len hi, r1⟩) hn⟩
theorem ds_own (h : DE X c .fr δ e d) (hN : X.N.Nodup) (hx : X.N[i]? = some x) (hl : Loc X.env.scope x) (hi : i < δ.length) (hn : Φ.nx (δ.set i (.own d))) (hs : swapsWith e (some (.Name x p1)) pos.line X.env = pure false := by rfl)
    (hf : X.fn x = true ∨ X.env.scope.names.lookup x = some .local := by first | exact .inl rfl | exact .inr rfl | assumption) : DS X W c δ (.Assign [.Name x p1] e pos) Φ :=
  DS.mkE h.k (ps_set hN hx hl h.pe hs hf) fun S σ g D q1 _ _ _ _ => ⟨S, rfl, g, fun v S1 l1 g1 r1 => by
    obtain ⟨S2, e1, e2, g2⟩ := g1.putO hi r1
    show D.nx _ S1.h
    rw [← e1]
    exact q1 S2 _ _ (by rw [e2]; exact l1.b) g2 hn⟩
/-- name = [..] on one line -/
theorem ds_setLc {elt iter tgE : Expr} {ifs : List Expr} {scope : Scope} {own : List (Str × Nat)} {α : Type} {enc : α → D} {ns : List α} {t : α → Bool} {f : α → D} {tg : Tgt} {tt : TT} {p : Pos}
    (hi : DE X c m δ iter (.lst (ns.map enc))) (P : LcP X c δ elt tgE ifs scope own (itMo (nf m)) enc ns t f tg tt) (hx : X.N[i]? = some x) (hl : X.env.scope.names.lookup x = some .local) (hil : i < δ.length) (hn : Φ.nx (δ.set i (.val (.lst ((ns.filter t).map f)))))
    (hsw : swapsWith (.ListComp elt [⟨tgE, iter, ifs, 0⟩] scope p) (some (.Name x p1)) pos.line X.env = pure true) (hm : nf (itMo (nf m)) = itMo (nf m) := by rfl) (hs : ∀ x, foldedSetIterable iter X.env x = pure x := by intro _; rfl) :
    DS X W c δ (.Assign [.Name x p1] (.ListComp elt [⟨tgE, iter, ifs, 0⟩] scope p) pos) Φ :=
  DS.mkE hi.k (ps_setLc P.calm P.nd hx hl hsw (pi_list hi.nf.pe) P.ok (fun s H C cl fp => (P.tgs s H C cl fp).pg) P.ifs P.els hs) fun S σ g D q1 _ _ _ _ => P.list σ S.h _ ⟨S, rfl, g, fun v S1 l1 g1 r1 => by
    obtain ⟨S2, e, l2, g2, r2⟩ := g1.mkVal (m := .fr) r1 rfl
    show D.nx _ S1.h
    rw [← e]
    exact q1 S2 _ _ (l1.trans l2).b (g2.putM (m := .val) hil r2) hn⟩ hm
theorem ds_setLcT {elt iter tgE : Expr} {ifs : List Expr} {scope : Scope} {own : List (Str × Nat)} {α : Type} {enc : α → D} {ns : List α} {t : α → Bool} {f : α → D} {tg : Tgt} {tt : TT} {p : Pos}
    (hi : DE X c m δ iter (.tup (ns.map enc))) (P : LcP X c δ elt tgE ifs scope own (itMo (nf m)) enc ns t f tg tt) (hx : X.N[i]? = some x) (hl : X.env.scope.names.lookup x = some .local) (hil : i < δ.length) (hn : Φ.nx (δ.set i (.val (.lst ((ns.filter t).map f)))))
    (hsw : swapsWith (.ListComp elt [⟨tgE, iter, ifs, 0⟩] scope p) (some (.Name x p1)) pos.line X.env = pure true) (hm : nf (itMo (nf m)) = itMo (nf m) := by rfl) (hs : ∀ x, foldedSetIterable iter X.env x = pure x := by intro _; rfl) :
    DS X W c δ (.Assign [.Name x p1] (.ListComp elt [⟨tgE, iter, ifs, 0⟩] scope p) pos) Φ :=
  DS.mkE hi.k (ps_setLc P.calm P.nd hx hl hsw (pi_tup hi.nf.pe) P.ok (fun s H C cl fp => (P.tgs s H C cl fp).pg) P.ifs P.els hs) fun S σ g D q1 _ _ _ _ => P.tup σ S.h _ ⟨S, rfl, g, fun v S1 l1 g1 r1 => by
    obtain ⟨S2, e, l2, g2, r2⟩ := g1.mkVal (m := .fr) r1 rfl
    show D.nx _ S1.h
    rw [← e]
    exact q1 S2 _ _ (l1.trans l2).b (g2.putM (m := .val) hil r2) hn⟩ hm
/-- a, b = e -/
theorem ds_unp {tgE : Expr} {tg : Tgt} (h : DE X c m δ e d) (hg : DG X tgE tg) (ho : tg.ok d δ.length) (hn : Φ.nx (tg.set (nf m) d δ)) (hs : swapsWithSole [tgE] e pos.line X.env = pure false := by rfl) (hw : swappedStores [tgE] e X.env = pure none := by rfl)
    (h1 : (assignEach [tgE] X.env).map (·.2) = [assign tgE X.env] := by rfl) : DS X W c δ (.Assign [tgE] e pos) Φ :=
  DS.mkE h.k (ps_asg h.nf.pe hg.pg hs hw h1) fun S σ g D q1 _ _ _ _ => ⟨S, rfl, g, fun v S1 l1 g1 r1 => tg.run g1 r1 ho fun σ2 g2 _ => q1 S1 _ _ l1.b g2 hn⟩

/-! ends -/
theorem ds_ret (h : DE X c m δ e d) (hv : canVal m d = true) (hr : Φ.rt .val d) : DS X W c δ (.Return (some e) pos) Φ :=
  DS.mkE h.k (ps_ret (h.val hv).pe) fun S σ g D _ q2 _ _ _ => ⟨S, rfl, g, fun v S1 l1 g1 r1 => q2 v .val d S1 l1.b g1.toGoodH r1 hr⟩
theorem ds_retE {d' : D} (h : DE X c m δ e d) (hv : canVal m d = true) (he : d = d') (hr : Φ.rt .val d') : DS X W c δ (.Return (some e) pos) Φ := ds_ret h hv (he ▸ hr)
theorem ds_retM (h : DE X c m δ e d) (hr : Φ.rt m d) : DS X W c δ (.Return (some e) pos) Φ :=
  DS.mkE h.k (ps_ret h.pe) fun S σ g D _ q2 _ _ _ => ⟨S, rfl, g, fun v S1 l1 g1 r1 => q2 v m d S1 l1.b g1.toGoodH r1 hr⟩
theorem ds_pass (k : X.K = c.K) (hn : Φ.nx δ) : DS X W c δ (.Pass pos) Φ := DS.mkE k ps_pass fun S σ g D q1 _ _ _ _ => q1 S σ δ (Ex.refl _) g hn
theorem ds_drop (h : DE X c m δ e d) (hn : Φ.nx δ) (hs : swapsWith e none pos.line X.env = pure false := by rfl) : DS X W c δ (.Expr e pos) Φ :=
  DS.mkE h.k (ps_expr h.pe hs) fun S σ g D q1 _ _ _ _ => ⟨S, rfl, g, fun v S1 l1 g1 r1 => q1 S1 σ δ l1.b g1 hn⟩

/-! if -/
theorem ds_if (h : DT X c δ cnd k) (ht : k = true → DSs X W c δ body Φ) (hf : k = false → DSs X W c δ els Φ) : DS X W c δ (.If cnd body els pos) Φ := by
  cases k with
  | true =>
    exact DS.mkE h.k (ps_if h.pt (ht rfl).ps pss_never) fun S σ g D q1 q2 q3 q4 q5 => ⟨S, rfl, g, fun S1 l1 g1 => by
      show sE c W δ Φ D σ S1.h
      exact ⟨S1, rfl, g1, fun S' σ' δ' l => q1 S' σ' δ' (l1.b.trans l), fun v m d S' l => q2 v m d S' (l1.b.trans l), fun S' σ' δ' l => q3 S' σ' δ' (l1.b.trans l), fun S' σ' δ' l => q4 S' σ' δ' (l1.b.trans l), fun a S' σ' l => q5 a S' σ' (l1.b.trans l)⟩⟩
  | false =>
    exact DS.mkE h.k (ps_if h.pt pss_never (hf rfl).ps) fun S σ g D q1 q2 q3 q4 q5 => ⟨S, rfl, g, fun S1 l1 g1 => by
      show sE c W δ Φ D σ S1.h
      exact ⟨S1, rfl, g1, fun S' σ' δ' l => q1 S' σ' δ' (l1.b.trans l), fun v m d S' l => q2 v m d S' (l1.b.trans l), fun S' σ' δ' l => q3 S' σ' δ' (l1.b.trans l), fun S' σ' δ' l => q4 S' σ' δ' (l1.b.trans l), fun a S' σ' l => q5 a S' σ' (l1.b.trans l)⟩⟩
/-- if c: (leaves), then the rest -/
theorem dss_guard (h : DT X c δ cnd k) (ht : k = true → DSs X W c δ body { Φ with nx := fun _ => False }) (hr : k = false → DSs X W c δ rest Φ) : DSs X W c δ (.If cnd body [] pos :: rest) Φ := by
  cases k with
  | true => exact dss_cons (M := fun _ => False) (ds_if h (fun _ => ht rfl) fun z => nomatch z) fun _ z => z.elim
  | false => exact dss_seq (ds_if h (fun z => nomatch z) fun _ => dss_nil h.k rfl) (hr rfl)
theorem dss_one (h : DS X W c δ st Φ) : DSs X W c δ [st] Φ := ⟨h.k, pss_one h.ps⟩

/-! a thing of one's own changes -/
theorem ds_app {y : Str} {apos : Pos} (hx : X.N[i]? = some y) (hv : Vis X.env.scope y) {ds : List D} (hs : δ[i]? = some (.own (.lst ds))) (h : DE X c m δ e d) (hv2 : canVal m d = true) (hl : ds.length < 100000) (hn : Φ.nx (δ.set i (.own (.lst (ds ++ [d])))))
    (hsw : swapsWith (.Call (.Attribute (.Name y p1) "append" apos) [e] [] p2) none pos.line X.env = pure false := by rfl) (hst : starEach [e] X.env = (false, eval e X.env) :: starEach [] X.env := by rfl)
    (hbase : attributeBase (.Name y p1) "append" X.env (eval (.Name y p1) X.env) = eval (.Name y p1) X.env := by rfl)
    (hfew : ((backTo p2 (starEach [e] X.env)).all (fun x => !x.1) && (backToKw p2 (keywordEach [] X.env)).all (fun x => x.1.isSome)
      && decide (([e] : List Expr).length + ([] : List Keyword).length + (if ([] : List Keyword).isEmpty then 0 else 1) < 30)) = true := by rfl)
    (hline : (apos.endLine == p2.line) = true := by rfl) (hplain : (backTo p2 (starEach [] X.env)).any (·.1) = false := by rfl) (hy : (y == ("__debug__" : Str)) = false := by decide) (hy2 : (y == ("__classdict__" : Str)) = false := by decide) :
    DS X W c δ (.Expr (.Call (.Attribute (.Name y p1) "append" apos) [e] [] p2) pos) Φ :=
  DS.mkE h.k (ps_expr (pe_bm PySem.F.plainAttrs_list PySem.F.slot_list_append PySem.F.type_list_append mt_append (pe_var hx hv hy hy2) (pa_cons (h.val hv2).pe pa_nil hst) hbase hfew hline hst hplain) hsw) fun S σ g D q1 _ _ _ _ => by
    obtain ⟨v, h1, r⟩ := g.sl i _ hs
    have hi : i < δ.length := (List.getElem?_eq_some_iff.mp hs).1
    cases r with
    | @lst p xs _ w hp hr =>
      refine ⟨.ref p, h1, .inl ⟨rfl, xs, SqL.of hp⟩, S, rfl, g, fun v S1 l1 g1 r1 => ?_⟩
      have w1 := w.le l1 (ne_some hp)
      have hp1 := l1.h _ _ hp
      refine ⟨p, xs, v, rfl, rfl, hp1, szl (by rw [hr.length]; exact hl), ?_⟩
      exact q1 ⟨S1.own, S1.b, upd S1.h p (.lst (xs ++ [v]))⟩ σ _ l1.b (g1.mutAt hi w1 h1 (.lst ⟨w1.own, w1.b, w1.h0⟩ upd_same ((hr.mono l1.b).append (.cons r1 .nil)))) hn
/-- d[k] = e: ints as keys -/
theorem ds_putK {y : Str} {ki : Expr} {p3 : Pos} {j : Int} {v : V} {kvs : List (Int × V)} (hu : X.A.units + 1 < cLine) (hx : X.N[i]? = some y) (hv : Vis X.env.scope y) (hs : δ[i]? = some (.own (.dk kvs))) (hk : DE X c m1 δ ki (.int j)) (h : DE X c m δ e d) (hd : ∀ K C H v', Re K C H v' d → v' = v) (hat : isAt d = true)
    (hl : kvs.length < 100000) (hn : Φ.nx (δ.set i (.own (.dk (dput kvs j v))))) (hsw : swapsWith e (some (.Subscript (.Name y p1) ki p3)) pos.line X.env = pure false := by rfl) (hy : (y == ("__debug__" : Str)) = false := by decide) (hy2 : (y == ("__classdict__" : Str)) = false := by decide) :
    DS X W c δ (.Assign [.Subscript (.Name y p1) ki p3] e pos) Φ :=
  DS.mkE h.k (ps_dput hu (pe_var hx hv hy hy2) hk.nf.pe h.nf.pe hsw) fun S σ g D q1 _ _ _ _ => ⟨S, rfl, g, fun v' S1 l1 g1 r1 => by
    obtain ⟨w0, h1, r⟩ := g1.sl i _ hs
    have hi : i < δ.length := (List.getElem?_eq_some_iff.mp hs).1
    cases r with
    | @dk p _ w hp =>
      refine ⟨.ref p, h1, S1, rfl, g1, fun u S2 l2 g2 r2 => ?_⟩
      have ev : v' = v := hd _ _ S1.b v' (r1.at hat rfl)
      have eu := r2.intI
      subst ev eu
      have w1 := w.le l2 (ne_some hp)
      have hp1 := l2.h _ _ hp
      refine ⟨p, _, rfl, DPut.k (k := .inl j) hp1 (szl (by rw [List.length_map]; exact hl)), ?_⟩
      rw [kkv_put]
      exact q1 ⟨S2.own, S2.b, upd S2.h p (.dK (kkv (dput kvs j v')))⟩ σ _ (l1.b.trans l2.b) (g2.mutAt hi w1 h1 (.dk ⟨w1.own, w1.b, w1.h0⟩ upd_same)) hn⟩
theorem ds_putI {y : Str} {ki : Expr} {p3 : Pos} {j n : Int} {kis : List (Int × Int)} (hu : X.A.units + 1 < cLine) (hx : X.N[i]? = some y) (hv : Vis X.env.scope y) (hs : δ[i]? = some (.own (.dk (iv kis)))) (hk : DE X c m1 δ ki (.int j)) (h : DE X c m δ e (.int n))
    (hl : kis.length < 100000) (hn : Φ.nx (δ.set i (.own (.dk (iv (dput kis j n)))))) (hsw : swapsWith e (some (.Subscript (.Name y p1) ki p3)) pos.line X.env = pure false := by rfl) (hy : (y == ("__debug__" : Str)) = false := by decide) (hy2 : (y == ("__classdict__" : Str)) = false := by decide) :
    DS X W c δ (.Assign [.Subscript (.Name y p1) ki p3] e pos) Φ :=
  ds_putK (v := .int n) hu hx hv hs hk h (fun _ _ _ _ r => by cases r; rfl) rfl (by rw [List.length_map]; exact hl) (by rw [iv_put]; exact hn) hsw hy hy2
theorem ds_putP {y : Str} {ki : Expr} {p3 : Pos} {j1 j2 n : Int} {kps : List ((Int × Int) × Int)} (hu : X.A.units + 1 < cLine) (hx : X.N[i]? = some y) (hv : Vis X.env.scope y) (hs : δ[i]? = some (.own (.dp kps))) (hk : DE X c m1 δ ki (.pk j1 j2)) (h : DE X c m δ e (.int n))
    (hl : kps.length < 100000) (hn : Φ.nx (δ.set i (.own (.dp (dput kps (j1, j2) n))))) (hsw : swapsWith e (some (.Subscript (.Name y p1) ki p3)) pos.line X.env = pure false := by rfl) (hy : (y == ("__debug__" : Str)) = false := by decide) (hy2 : (y == ("__classdict__" : Str)) = false := by decide) :
    DS X W c δ (.Assign [.Subscript (.Name y p1) ki p3] e pos) Φ :=
  DS.mkE h.k (ps_dput hu (pe_var hx hv hy hy2) hk.nf.pe h.nf.pe hsw) fun S σ g D q1 _ _ _ _ => ⟨S, rfl, g, fun v' S1 l1 g1 r1 => by
    obtain ⟨w0, h1, r⟩ := g1.sl i _ hs
    have hi : i < δ.length := (List.getElem?_eq_some_iff.mp hs).1
    cases r with
    | @dp p _ w hp =>
      refine ⟨.ref p, h1, S1, rfl, g1, fun u S2 l2 g2 r2 => ?_⟩
      have ev := r1.intI
      obtain ⟨t, eu, ht⟩ := g2.toGoodH.pair r2
      subst ev eu
      have w1 := w.le l2 (ne_some hp)
      have hp1 := l2.h _ _ hp
      refine ⟨p, _, rfl, DPut.t (k := kP (j1, j2)) hp1 ht (szl (by rw [List.length_map]; exact hl)), ?_⟩
      rw [kpv_put]
      exact q1 ⟨S2.own, S2.b, upd S2.h p (.dT (kpv (dput kps (j1, j2) n)))⟩ σ _ (l1.b.trans l2.b) (g2.mutAt hi w1 h1 (.dp ⟨w1.own, w1.b, w1.h0⟩ upd_same)) hn⟩
end

/-! ### loops -/
section
variable {X : Cx} {W : WX} {c : Cc} {δ : List Sl} {body : List Stmt} {a b iter cnd tgE : Expr} {pos p1 p2 : Pos} {m m1 m2 : Mo} {Φ : Po} {ds : List D} {tg : Tgt}
/-- the wishes within a loop's turn -/
def Po.turn (Φ : Po) (P : List Sl → Prop) : Po := { nx := P, rt := Φ.rt, bk := Φ.nx, ct := P, xc := Φ.xc }
theorem ds_forR {n lo : Int} {wi : TI} (hp : PassesOwn (model X.prog X.w) X.A X.env X.xe) (hc : X.calm = true) (hK : X.K = c.K) (hi : PI X tgE iter wi) (hg : DG X tgE tg) (P : Nat → List Sl → Prop) (h0 : P 0 δ) (hlen : ∀ i δ', P i δ' → tg.ok (.int 0) δ'.length)
    (hw : ∀ σ S (R : It → Hp → Prop), Good c S σ δ → (∀ S', Le c S S' → Good c S' σ δ → R (Itr lo n.toNat) S'.h) → wi σ S.h R) (htg : ∃ j, tg = .nm j)
    (hs : ∀ (i : Nat) δ', (i : Int) < n → P i δ' → DSs X W c (tg.set .val (.int (lo + i)) δ') body (Φ.turn (P (i + 1)))) (hd : ∀ δ', P n.toNat δ' → Φ.nx δ')
    (hs2 : ∀ x, foldedSetIterable iter X.env x = pure x := by intro _; rfl) : DS X W c δ (.For tgE iter body [] pos) Φ := by
  obtain ⟨j, rfl⟩ := htg
  refine DS.mkE hK (ps_for hp hc hi hg.pg (PSs.any (ι := Nat × List Sl) (P := fun z => (z.1 : Int) < n ∧ P z.1 z.2) (t := fun z => sE c W ((Tgt.nm j).set .val (.int (lo + z.1)) z.2) (Φ.turn (P (z.1 + 1)))) fun z hz => (hs z.1 z.2 hz.1 hz.2).ps) hs2) fun S σ g D q1 q2 q3 q4 q5 => ?_
  refine hw σ S _ g fun S1 l1 g1 => ?_
  refine for_range (lo := lo) (n := n.toNat) (g := (Tgt.nm j).g X.K) (tb := fun D σ H => ∃ z : Nat × List Sl, ((z.1 : Int) < n ∧ P z.1 z.2) ∧ sE c W ((Tgt.nm j).set .val (.int (lo + z.1)) z.2) (Φ.turn (P (z.1 + 1))) D σ H) (D := D) (fun i σ' H' => ∃ S' δ', S'.h = H' ∧ Ex S.b S'.b ∧ Good c S' σ' δ' ∧ P i δ') ⟨S1, δ, rfl, l1.b, g1, h0⟩ ?_ ?_
  · rintro i σ' H' hi ⟨S2, δ2, rfl, l2, g2, hP⟩
    have ho : j < δ2.length := hlen i δ2 hP
    refine ⟨(i, δ2), ⟨by show (i : Int) < n; omega, hP⟩, S2, rfl, g2.putM (m := .val) ho (.int _), ?_, ?_, ?_, ?_, ?_⟩
    · exact fun S' σ' δ' l g' h => ⟨S', δ', rfl, l2.trans l, g', h⟩
    · exact fun v m d S' l => q2 v m d S' (l2.trans l)
    · exact fun S' σ' δ' l g' h => q1 S' σ' δ' (l2.trans l) g' h
    · exact fun S' σ' δ' l g' h => ⟨S', δ', rfl, l2.trans l, g', h⟩
    · exact fun a S' σ' l => q5 a S' σ' (l2.trans l)
  · rintro σ' H' ⟨S2, δ2, rfl, l2, g2, hP⟩
    exact q1 S2 σ' δ2 l2 g2 (hd δ2 hP)
theorem ds_forR1 {n : Int} {j : Nat} {p : Pos} (hp : PassesOwn (model X.prog X.w) X.A X.env X.xe) (hc : X.calm = true) (hg0 : Gl X "range") (hm0 : X.mg "range" = none) (hi : DE X c m δ a (.int n)) (hg : DG X tgE (.nm j)) (hn : -100000 ≤ n ∧ n ≤ 100000) (P : Nat → List Sl → Prop) (h0 : P 0 δ) (hlen : ∀ i δ', P i δ' → j < δ'.length)
    (hs : ∀ (i : Nat) δ', (i : Int) < n → P i δ' → DSs X W c (δ'.set j (.val (.int i))) body (Φ.turn (P (i + 1)))) (hd : ∀ δ', P n.toNat δ' → Φ.nx δ')
    (hs2 : ∀ x, foldedSetIterable (.Call (.Name "range" p) [a] [] p2) X.env x = pure x := by intro _; rfl) (hs3 : starEach [a] X.env = [(false, eval a X.env)] := by rfl) (hs4 : starEach [a] X.env = (false, eval a X.env) :: starEach [] X.env := by rfl) : DS X W c δ (.For tgE (.Call (.Name "range" p) [a] [] p2) body [] pos) Φ :=
  ds_forR (lo := 0) (n := n) hp hc hi.k (pi_range1 hg0 hm0 (da_cons hi (da_nil hi.k) hs4).pa hs3) hg P h0 hlen (fun σ S R g q => ⟨S, rfl, g, fun vs S1 l1 g1 r1 => by
    obtain ⟨v, rfl, r⟩ := r1.one
    exact ⟨n, by rw [r.intI], by omega, by omega, q S1 l1 g1⟩⟩) ⟨j, rfl⟩ (fun i δ' h1 h2 => by
      have := hs i δ' h1 h2
      rw [Int.zero_add]
      exact this) hd hs2
theorem ds_forR2 {lo hi_ : Int} {j : Nat} {p : Pos} (hp : PassesOwn (model X.prog X.w) X.A X.env X.xe) (hc : X.calm = true) (hg0 : Gl X "range") (hm0 : X.mg "range" = none) (hi : DE X c m δ a (.int lo)) (hj : DE X c m2 δ b (.int hi_)) (hg : DG X tgE (.nm j)) (hn : (-100000 ≤ lo ∧ lo ≤ 100000) ∧ -100000 ≤ hi_ ∧ hi_ ≤ 100000) (P : Nat → List Sl → Prop) (h0 : P 0 δ) (hlen : ∀ i δ', P i δ' → j < δ'.length)
    (hs : ∀ (i : Nat) δ', (i : Int) < hi_ - lo → P i δ' → DSs X W c (δ'.set j (.val (.int (lo + i)))) body (Φ.turn (P (i + 1)))) (hd : ∀ δ', P (hi_ - lo).toNat δ' → Φ.nx δ')
    (hs2 : ∀ x, foldedSetIterable (.Call (.Name "range" p) [a, b] [] p2) X.env x = pure x := by intro _; rfl) (hs3 : starEach [a, b] X.env = [(false, eval a X.env), (false, eval b X.env)] := by rfl) (hs5 : starEach [b] X.env = [(false, eval b X.env)] := by rfl) (hs4 : starEach [b] X.env = (false, eval b X.env) :: starEach [] X.env := by rfl)
    (hs6 : starEach [a, b] X.env = (false, eval a X.env) :: starEach [b] X.env := by rfl) : DS X W c δ (.For tgE (.Call (.Name "range" p) [a, b] [] p2) body [] pos) Φ :=
  ds_forR (lo := lo) (n := hi_ - lo) hp hc hi.k (pi_range2 hg0 hm0 (da_cons hi (da_cons hj (da_nil hi.k) hs4) hs6).pa hs3 hs5) hg P h0 hlen (fun σ S R g q => ⟨S, rfl, g, fun vs S1 l1 g1 r1 => by
    obtain ⟨v, w, rfl, r, r'⟩ := r1.two
    exact ⟨lo, hi_, by rw [r.intI, r'.intI], by omega, q S1 l1 g1⟩⟩) ⟨j, rfl⟩ hs hd hs2
/-- what is walked stays -/
def isSt : Mo → Bool
  | .val => true | .old => true | _ => false
theorem ds_forL (hp : PassesOwn (model X.prog X.w) X.A X.env X.xe) (hc : X.calm = true) (hi : DE X c m δ iter (.lst ds)) (hst : isSt m = true) (hg : DG X tgE tg) (P : Nat → List Sl → Prop) (h0 : P 0 δ)
    (hlen : ∀ i d δ', ds[i]? = some d → P i δ' → tg.ok d δ'.length)
    (hs : ∀ (i : Nat) d δ', ds[i]? = some d → P i δ' → DSs X W c (tg.set m d δ') body (Φ.turn (P (i + 1)))) (hd : ∀ δ', P ds.length δ' → Φ.nx δ')
    (hs2 : ∀ x, foldedSetIterable iter X.env x = pure x := by intro _; rfl) : DS X W c δ (.For tgE iter body [] pos) Φ := by
  refine DS.mkE hi.k (ps_for hp hc (pi_list hi.pe) hg.pg (PSs.any (ι := (Nat × D) × List Sl) (P := fun z => ds[z.1.1]? = some z.1.2 ∧ P z.1.1 z.2) (t := fun z => sE c W (tg.set m z.1.2 z.2) (Φ.turn (P (z.1.1 + 1)))) fun z hz => (hs z.1.1 z.1.2 z.2 hz.1 hz.2).ps) hs2) fun S σ g D q1 q2 q3 q4 q5 => ⟨S, rfl, g, fun v S1 l1 g1 r1 => ?_⟩
  obtain ⟨p, xs, rfl, hp1, hl, hx⟩ := g1.toGoodH.lst r1
  -- the list stays as the state goes on
  have stay : ∀ S2, Ex S1.b S2.b → GoodH c S2 → S2.h p = some (.lst xs) ∧ ∀ (i : Nat) (d : Ov.D) (x : V), ds[i]? = some d → xs[i]? = some x → ReM c S2 m x d := by
    intro S2 l2 g2
    cases m with
    | val =>
      have r1 : Re c.K c.C S1.b (.ref p) (.lst ds) := r1
      cases r1 with
      | lst e q =>
        have e2 := (g1.exb _ _ e).symm.trans hp1
        cases e2
        exact ⟨g2.exb _ _ (l2 _ _ e), fun i d x h1 h2 => by
          obtain ⟨x', h3, h4⟩ := q.get h1
          rw [h2] at h3; cases h3; exact h4.mono l2⟩
    | old =>
      have r1 : Re c.K c.C c.H0 (.ref p) (.lst ds) := r1
      cases r1 with
      | lst e q =>
        have e2 := (g1.ex0 _ _ e).symm.trans hp1
        cases e2
        exact ⟨g2.ex0 _ _ e, fun i d x h1 h2 => by
          obtain ⟨x', h3, h4⟩ := q.get h1
          rw [h2] at h3; cases h3; exact h4⟩
    | _ => cases hst
  refine ⟨p, rfl, ⟨xs, SqL.of hp1⟩, ?_⟩
  refine for_list (K := X.K) (a := p) (xs := xs) (g := tg.g X.K) (tb := fun D σ H => ∃ z : (Nat × Ov.D) × List Sl, (ds[z.1.1]? = some z.1.2 ∧ P z.1.1 z.2) ∧ sE c W (tg.set m z.1.2 z.2) (Φ.turn (P (z.1.1 + 1))) D σ H) (D := D) (fun i σ' H' => ∃ S' δ', S'.h = H' ∧ Ex S.b S'.b ∧ Ex S1.b S'.b ∧ Good c S' σ' δ' ∧ P i δ') ⟨S1, δ, rfl, l1.b, Ex.refl _, g1, h0⟩ ?_ ?_ ?_
  · rintro i σ' H' _ ⟨S2, δ2, rfl, l2, l3, g2, hP⟩
    exact SqL.of (stay S2 l3 g2.toGoodH).1
  · rintro i x σ' H' hxi ⟨S2, δ2, rfl, l2, l3, g2, hP⟩
    have hil : i < ds.length := by
      have := (List.getElem?_eq_some_iff.mp hxi).1
      omega
    have hdi : ds[i]? = some ds[i] := List.getElem?_eq_getElem hil
    have r := (stay S2 l3 g2.toGoodH).2 i ds[i] x hdi hxi
    refine tg.run g2 r (hlen i _ δ2 hdi hP) fun σ2 g3 _ => ?_
    refine ⟨((i, ds[i]), δ2), ⟨hdi, hP⟩, S2, rfl, g3, ?_, ?_, ?_, ?_, ?_⟩
    · exact fun S' σ' δ' l g' h => ⟨S', δ', rfl, l2.trans l, l3.trans l, g', h⟩
    · exact fun v m d S' l => q2 v m d S' (l2.trans l)
    · exact fun S' σ' δ' l g' h => q1 S' σ' δ' (l2.trans l) g' h
    · exact fun S' σ' δ' l g' h => ⟨S', δ', rfl, l2.trans l, l3.trans l, g', h⟩
    · exact fun a S' σ' l => q5 a S' σ' (l2.trans l)
  · rintro σ' H' ⟨S2, δ2, rfl, l2, l3, g2, hP⟩
    rw [hl] at hP
    exact q1 S2 σ' δ2 l2 g2 (hd δ2 hP)
theorem ds_forT (hp : PassesOwn (model X.prog X.w) X.A X.env X.xe) (hc : X.calm = true) (hi : DE X c m δ iter (.tup ds)) (hst : isSt m = true) (hg : DG X tgE tg) (P : Nat → List Sl → Prop) (h0 : P 0 δ)
    (hlen : ∀ i d δ', ds[i]? = some d → P i δ' → tg.ok d δ'.length)
    (hs : ∀ (i : Nat) d δ', ds[i]? = some d → P i δ' → DSs X W c (tg.set m d δ') body (Φ.turn (P (i + 1)))) (hd : ∀ δ', P ds.length δ' → Φ.nx δ')
    (hs2 : ∀ x, foldedSetIterable iter X.env x = pure x := by intro _; rfl) : DS X W c δ (.For tgE iter body [] pos) Φ := by
  refine DS.mkE hi.k (ps_for hp hc (pi_tup hi.pe) hg.pg (PSs.any (ι := (Nat × D) × List Sl) (P := fun z => ds[z.1.1]? = some z.1.2 ∧ P z.1.1 z.2) (t := fun z => sE c W (tg.set m z.1.2 z.2) (Φ.turn (P (z.1.1 + 1)))) fun z hz => (hs z.1.1 z.1.2 z.2 hz.1 hz.2).ps) hs2) fun S σ g D q1 q2 q3 q4 q5 => ⟨S, rfl, g, fun v S1 l1 g1 r1 => ?_⟩
  obtain ⟨p, xs, rfl, hp1, hl, hx⟩ := g1.toGoodH.tup r1
  have stay : ∀ S2, Ex S1.b S2.b → GoodH c S2 → TupK S2.h p xs ∧ ∀ (i : Nat) (d : Ov.D) (x : V), ds[i]? = some d → xs[i]? = some x → ReM c S2 m x d := by
    intro S2 l2 g2
    cases m with
    | val =>
      have r1 : Re c.K c.C S1.b (.ref p) (.tup ds) := r1
      cases r1 with
      | tup e q =>
        have e2 := (e.mono g1.exb).inj hp1
        subst e2
        exact ⟨(e.mono l2).mono g2.exb, fun i d x h1 h2 => by
          obtain ⟨x', h3, h4⟩ := q.get h1
          rw [h2] at h3; cases h3; exact h4.mono l2⟩
    | old =>
      have r1 : Re c.K c.C c.H0 (.ref p) (.tup ds) := r1
      cases r1 with
      | tup e q =>
        have e2 := (e.mono g1.ex0).inj hp1
        subst e2
        exact ⟨e.mono g2.ex0, fun i d x h1 h2 => by
          obtain ⟨x', h3, h4⟩ := q.get h1
          rw [h2] at h3; cases h3; exact h4⟩
    | _ => cases hst
  refine ⟨p, rfl, ⟨xs, hp1.sq⟩, ?_⟩
  refine for_tup (K := X.K) (a := p) (xs := xs) (g := tg.g X.K) (tb := fun D σ H => ∃ z : (Nat × Ov.D) × List Sl, (ds[z.1.1]? = some z.1.2 ∧ P z.1.1 z.2) ∧ sE c W (tg.set m z.1.2 z.2) (Φ.turn (P (z.1.1 + 1))) D σ H) (D := D) (fun i σ' H' => ∃ S' δ', S'.h = H' ∧ Ex S.b S'.b ∧ Ex S1.b S'.b ∧ Good c S' σ' δ' ∧ P i δ') ⟨S1, δ, rfl, l1.b, Ex.refl _, g1, h0⟩ ?_ ?_ ?_
  · rintro i σ' H' _ ⟨S2, δ2, rfl, l2, l3, g2, hP⟩
    exact (stay S2 l3 g2.toGoodH).1.sq
  · rintro i x σ' H' hxi ⟨S2, δ2, rfl, l2, l3, g2, hP⟩
    have hil : i < ds.length := by
      have := (List.getElem?_eq_some_iff.mp hxi).1
      omega
    have hdi : ds[i]? = some ds[i] := List.getElem?_eq_getElem hil
    have r := (stay S2 l3 g2.toGoodH).2 i ds[i] x hdi hxi
    refine tg.run g2 r (hlen i _ δ2 hdi hP) fun σ2 g3 _ => ?_
    refine ⟨((i, ds[i]), δ2), ⟨hdi, hP⟩, S2, rfl, g3, ?_, ?_, ?_, ?_, ?_⟩
    · exact fun S' σ' δ' l g' h => ⟨S', δ', rfl, l2.trans l, l3.trans l, g', h⟩
    · exact fun v m d S' l => q2 v m d S' (l2.trans l)
    · exact fun S' σ' δ' l g' h => q1 S' σ' δ' (l2.trans l) g' h
    · exact fun S' σ' δ' l g' h => ⟨S', δ', rfl, l2.trans l, l3.trans l, g', h⟩
    · exact fun a S' σ' l => q5 a S' σ' (l2.trans l)
  · rintro σ' H' ⟨S2, δ2, rfl, l2, l3, g2, hP⟩
    rw [hl] at hP
    exact q1 S2 σ' δ2 l2 g2 (hd δ2 hP)
/-- while, by a word and a number that falls -/
theorem ds_while {ι : Type} (hp : PassesOwn (model X.prog X.w) X.A X.env X.xe) (hK : X.K = c.K) (st : ι → List Sl) (P : Nat → ι → Prop) (n0 : Nat) (i0 : ι) (e0 : δ = st i0) (h0 : P n0 i0) (t : ι → Bool)
    (hc : ∀ n i, P n i → DT X c (st i) cnd (t i)) (hs : ∀ n i, P n i → t i = true → DSs X W c (st i) body (Φ.turn fun δ2 => ∃ n2 i2, n2 < n ∧ δ2 = st i2 ∧ P n2 i2)) (hd : ∀ n i, P n i → t i = false → Φ.nx (st i)) : DS X W c δ (.While cnd body [] pos) Φ := by
  subst e0
  refine DS.mkE hK (ps_while hp (PT.any (ι := Nat × ι) (P := fun z => P z.1 z.2) (t := fun z => tT c (st z.2) (t z.2)) fun z hz => (hc z.1 z.2 hz).pt)
    (PSs.any (ι := Nat × ι) (P := fun z => P z.1 z.2 ∧ t z.2 = true) (t := fun z => sE c W (st z.2) (Φ.turn fun δ2 => ∃ n2 i2, n2 < z.1 ∧ δ2 = st i2 ∧ P n2 i2)) fun z hz => (hs z.1 z.2 hz.1 hz.2).ps)) fun S σ g D q1 q2 q3 q4 q5 => ?_
  refine ⟨fun n σ' H' => ∃ S' i', S'.h = H' ∧ Ex S.b S'.b ∧ Good c S' σ' (st i') ∧ P n i', ⟨n0, S, i0, rfl, Ex.refl _, g, h0⟩, ?_⟩
  rintro n σ' H' ⟨S1, i1, rfl, l1, g1, hP⟩
  refine ⟨(n, i1), hP, S1, rfl, g1, fun S2 l2 g2 => ?_⟩
  cases ht : t i1 with
  | true =>
    show ∃ N : St → Hp → Prop, (∀ σ' H', N σ' H' → ∃ m', m' < n ∧ _) ∧ _
    refine ⟨fun σ3 H3 => ∃ n2, n2 < n ∧ ∃ S' i', S'.h = H3 ∧ Ex S.b S'.b ∧ Good c S' σ3 (st i') ∧ P n2 i', fun σ3 H3 ⟨n2, h2, z⟩ => ⟨n2, h2, z⟩, (n, i1), ⟨hP, ht⟩, S2, rfl, g2, ?_, ?_, ?_, ?_, ?_⟩
    · rintro S' σ' δ' l g' ⟨n2, i2, h2, rfl, h3⟩
      exact ⟨n2, h2, S', i2, rfl, (l1.trans l2.b).trans l, g', h3⟩
    · exact fun v m d S' l => q2 v m d S' ((l1.trans l2.b).trans l)
    · exact fun S' σ' δ' l g' h => q1 S' σ' δ' ((l1.trans l2.b).trans l) g' h
    · rintro S' σ' δ' l g' ⟨n2, i2, h2, rfl, h3⟩
      exact ⟨n2, h2, S', i2, rfl, (l1.trans l2.b).trans l, g', h3⟩
    · exact fun a S' σ' l => q5 a S' σ' ((l1.trans l2.b).trans l)
  | false => exact q1 S2 σ' (st i1) (l1.trans l2.b) g2 (hd n i1 hP ht)
end
end Ov

/-! D-layer: defs, calls, methods, raising. -/
namespace Ov
open PySem L2 PySem.Spec PyProof.Rows

inductive Out where
  | ret (m : Mo) (d : D) | exc (a : Addr)
/-- arguments: those that stay, those that are lent -/
inductive ArgsOk (K : PySem.W.Frag) (C : Addr) (Hb H : Hp) : List Mo → List D → List V → Prop
  | nil : ArgsOk K C Hb H [] [] []
  | val {v : V} {d : D} {ms : List Mo} {ds : List D} {vs : List V} : Re K C Hb v d → ArgsOk K C Hb H ms ds vs → ArgsOk K C Hb H (.val :: ms) (d :: ds) (v :: vs)
  | bor {v : V} {d : D} {ms : List Mo} {ds : List D} {vs : List V} : Re K C H v d → ArgsOk K C Hb H ms ds vs → ArgsOk K C Hb H (.bor :: ms) (d :: ds) (v :: vs)
theorem ArgsOk.len {K : PySem.W.Frag} {C : Addr} {Hb H : Hp} : ∀ {ms : List Mo} {ds : List D} {vs : List V}, ArgsOk K C Hb H ms ds vs → vs.length = ms.length
  | _, _, _, .nil => rfl
  | _, _, _, .val _ t => congrArg (· + 1) t.len
  | _, _, _, .bor _ t => congrArg (· + 1) t.len
def spT {α : Type} (K : PySem.W.Frag) (C : Addr) (ms : List Mo) (enc : α → List D) (pre : α → Prop) (out : α → Out) : Sp := fun vs H Q E => ∃ a Hb, Ex Hb H ∧ ArgsOk K C Hb H ms (enc a) vs ∧ pre a ∧
  match out a with
  | .ret m d => ∀ v S', GoodH ⟨K, C, H, Hb⟩ S' → ReM ⟨K, C, H, Hb⟩ S' m v d → Q v S'.h
  | .exc e => ∀ S', GoodH ⟨K, C, H, Hb⟩ S' → E (.ref e) none S'.h
def poOf (o : Out) : Po := { nx := fun _ => o = .ret .val .non, rt := fun m d => o = .ret m d, xc := fun e => o = .exc e }
def argSl : Mo → D → Sl
  | .val, d => .val d | _, d => .bor d
def startD : List Mo → List D → Nat → List Sl
  | m :: ms, d :: ds, n => argSl m d :: startD ms ds (n - 1)
  | _, _, n => List.replicate n .any
def SlS (c : Cc) (S : G) (σ : L2.St) (i : Nat) : Sl → Prop
  | .any => True
  | .val d => ∃ v, σ[i]? = some (some v) ∧ Re c.K c.C S.b v d
  | .bor d => ∃ v, σ[i]? = some (some v) ∧ Re c.K c.C c.H0 v d
  | .own _ => False
theorem start_sl {K : PySem.W.Frag} {C : Addr} {Hb H : Hp} (e : Ex Hb H) : ∀ {ms : List Mo} {ds : List D} {vs : List V} (n : Nat), ArgsOk K C Hb H ms ds vs → vs.length ≤ n →
    (vs.map some ++ List.replicate (n - vs.length) none).length = (startD ms ds n).length ∧
    ∀ (i : Nat) (s : Sl), (startD ms ds n)[i]? = some s → ∀ (c : Cc) (S : G), c.K = K → c.C = C → c.H0 = H → S.b = Hb → SlS c S (vs.map some ++ List.replicate (n - vs.length) none) i s
  | [], [], [], n, .nil, _ => by
    refine ⟨by simp [startD], fun i s h c S _ _ _ _ => ?_⟩
    simp only [startD, List.getElem?_replicate] at h
    split at h <;> cases h
    trivial
  | .val :: ms, d :: ds, v :: vs, n, .val r t, hl => by
    obtain ⟨m, rfl⟩ : ∃ m, n = m + 1 := ⟨n - 1, by simp only [List.length_cons] at hl; omega⟩
    obtain ⟨a, b⟩ := start_sl e (n := m) t (by simpa using hl)
    have en : m + 1 - (v :: vs).length = m - vs.length := by simp only [List.length_cons]; omega
    rw [en]
    refine ⟨by simpa [startD] using a, fun i s h c S k1 k2 k3 k4 => ?_⟩
    cases i with
    | zero =>
      simp only [startD, List.getElem?_cons_zero, argSl, Option.some.injEq] at h
      subst h
      exact ⟨v, rfl, by rw [k1, k2, k4]; exact r⟩
    | succ i =>
      simp only [startD, List.getElem?_cons_succ] at h
      have z := b i s h c S k1 k2 k3 k4
      cases s <;> first | exact z | (obtain ⟨x, h1, h2⟩ := z; exact ⟨x, by simpa using h1, h2⟩)
  | .bor :: ms, d :: ds, v :: vs, n, .bor r t, hl => by
    obtain ⟨m, rfl⟩ : ∃ m, n = m + 1 := ⟨n - 1, by simp only [List.length_cons] at hl; omega⟩
    obtain ⟨a, b⟩ := start_sl e (n := m) t (by simpa using hl)
    have en : m + 1 - (v :: vs).length = m - vs.length := by simp only [List.length_cons]; omega
    rw [en]
    refine ⟨by simpa [startD] using a, fun i s h c S k1 k2 k3 k4 => ?_⟩
    cases i with
    | zero =>
      simp only [startD, List.getElem?_cons_zero, argSl, Option.some.injEq] at h
      subst h
      exact ⟨v, rfl, by rw [k1, k2, k3]; exact r⟩
    | succ i =>
      simp only [startD, List.getElem?_cons_succ] at h
      have z := b i s h c S k1 k2 k3 k4
      cases s <;> first | exact z | (obtain ⟨x, h1, h2⟩ := z; exact ⟨x, by simpa using h1, h2⟩)

section
variable {P : Program} {w : World} {K : PySem.W.Frag} {mg : Str → Option Value} {base : Heap} {C : Addr}
/-- the context of a def's body -/
abbrev cxD (P : Program) (w : World) (K : PySem.W.Frag) (mg : Str → Option Value) (base : Heap) (N : List Str) (qual : Str) (st : Stmt) (f : Addr) (cdv : Value) (A : Around) (outer : List Env) (s : Shared) (H : Hp) (E : XK) : Cx :=
  cxOf (L2.CX P w) P w K mg base N qual (defScope st) f cdv A outer s H E
abbrev wE (E : XK) : WX := fun cls d _ H => E cls d H
theorem ok_of {α : Type} {x qual : Str} {st : Stmt} {f : Addr} {fd : FuncData} {N ps : List Str} {k : Nat} {ms : List Mo} {enc : α → List D} {pre : α → Prop} {out : α → Out} (F : Fun K x qual st f fd) (S : FnScope N ps (defScope st)) (hms : ms.length = ps.length)
    (hbody : ∀ (cdv : Value) (A : Around) (outer : List Env) (s : Shared) (H : Hp) (E : XK), Room k (A.deeper (envOfC qual (defScope st) s.heap.objs.size f cdv)) → ∀ (Hb : Hp) (a : α), pre a →
      DSs (cxD P w K mg base N qual st f cdv A outer s H E) (wE E) ⟨K, C, H, Hb⟩ (startD ms (enc a) N.length) (defBody st) (poOf (out a))) :
    FnOk P w K mg base (L2.CX P w) (k + 1) f fd ps (spT K C ms enc pre out) := by
  refine F.okX S (fun vs H Q E h => ?_) (fun cdv A outer s H vs Q E hr h => ?_)
  · obtain ⟨a, Hb, _, h, _⟩ := h
    rw [h.len, hms]
  · obtain ⟨a, Hb, e, ha, hp, hq⟩ := h
    have hl : vs.length ≤ N.length := by
      have := congrArg List.length S.pre
      rw [List.length_take] at this
      rw [ha.len, hms]
      omega
    refine ⟨_, (hbody cdv A outer s H E hr Hb a hp).ps, ⟨fun _ => none, Hb, H⟩, rfl, ?_, ?_, ?_, ?_, ?_, ?_⟩
    · obtain ⟨q1, q2⟩ := start_sl e N.length ha hl
      refine ⟨⟨Ex.refl _, e, Ex.refl _, fun p h _ => h⟩, q1, fun i sl hi => ?_⟩
      have z := q2 i sl hi ⟨K, C, H, Hb⟩ ⟨fun _ => none, Hb, H⟩ rfl rfl rfl rfl
      cases sl <;> first | exact z | exact z.elim
    · intro S' σ' δ' l g h
      have h : out a = .ret .val .non := h
      rw [h] at hq
      exact hq _ S' g.toGoodH .non
    · intro v m d S' l g r h
      have h : out a = .ret m d := h
      rw [h] at hq
      exact hq v S' g r
    · intro _ _ _ _ _ h; exact h.elim
    · intro _ _ _ _ _ h; exact h.elim
    · intro b S' σ' l g h
      have h : out a = .exc b := h
      rw [h] at hq
      exact hq S' g
end

/-! ### calls -/
/-- an expression that may raise -/
def tX (c : Cc) (W : WX) (δ : List Sl) : Out → TE
  | .ret m d => tE c m δ d
  | .exc a => fun σ H _ => ∃ S, S.h = H ∧ Good c S σ δ ∧ ∀ S', Ex S.b S'.b → GoodH c S' → W (.ref a) none σ S'.h
structure DX (X : Cx) (W : WX) (c : Cc) (δ : List Sl) (e : Expr) (o : Out) : Prop where
  k : X.K = c.K
  pe : PE X e (tX c W δ o)
section
variable {X : Cx} {W : WX} {c : Cc} {δ : List Sl} {e o : Expr} {es : List Expr} {pos p apos : Pos} {m m1 m2 : Mo} {d d1 d2 : D} {l : List (Mo × D)} {x mn : Str} {α : Type} {ms : List Mo} {enc : α → List D} {pre : α → Prop} {out : α → Out} {f : Addr} {fd : FuncData} {ps : List Str} {k : Nat} {Φ : Po} {i : Nat} {p1 : Pos}
theorem DE.toX (h : DE X c m δ e d) : DX X W c δ e (.ret m d) := ⟨h.k, h.pe⟩
theorem DX.de (h : DX X W c δ e (.ret m d)) : DE X c m δ e d := ⟨h.k, h.pe⟩
/-- the arguments' modes are those asked -/
def msOk : List (Mo × D) → List Mo → Bool
  | [], [] => true
  | (m, d) :: l, .val :: ms => canVal m d && msOk l ms
  | _ :: l, .bor :: ms => msOk l ms
  | _, _ => false
theorem argsOk_of {S : G} (g : GoodH c S) : ∀ {l : List (Mo × D)} {ms : List Mo} {vs : List V}, (∀ p ∈ l, p.1 ≠ .fr) → msOk l ms = true → ReMs c S l vs → ArgsOk c.K c.C S.b S.h ms (l.map (·.2)) vs
  | [], [], _, _, _, .nil => .nil
  | (m, d) :: l, .val :: ms, v :: vs, hn, h, .cons r t => by
    have h : (canVal m d && msOk l ms) = true := h
    rw [Bool.and_eq_true] at h
    refine .val ?_ (argsOk_of g (fun p hp => hn p (List.mem_cons_of_mem _ hp)) h.2 t)
    cases m with
    | val => exact r
    | fr => exact absurd rfl (hn _ List.mem_cons_self)
    | old => exact r.at h.1 rfl
    | sh => exact r.at h.1 rfl
    | bor => exact r.at h.1 rfl
  | (m, d) :: l, .bor :: ms, v :: vs, hn, h, .cons r t => .bor (Good.now g r) (argsOk_of g (fun p hp => hn p (List.mem_cons_of_mem _ hp)) h t)
  | [], .val :: _, _, _, h, _ => by cases h
  | [], .bor :: _, _, _, h, _ => by cases h
  | _ :: _, [], _, _, h, _ => by cases h
  | _ :: _, .old :: _, _, _, h, _ => by cases h
  | _ :: _, .sh :: _, _, _, h, _ => by cases h
  | _ :: _, .fr :: _, _, _, h, _ => by cases h
/-- the state behind a call -/
def G.after (S S' : G) : G := ⟨fun p => match S.h p with | none => none | some _ => S.own p, S'.b, S'.h⟩
theorem after_le {S S' : G} {σ : L2.St} (g : Good c S σ δ) (g' : GoodH ⟨c.K, c.C, S.h, S.b⟩ S') : Le c S (S.after S') ∧ Good c (S.after S') σ δ := by
  have l : Le c S (S.after S') := ⟨g'.exi, g'.ex0, fun p hp => by
    show (match S.h p with | none => none | some _ => S.own p) = S.own p
    cases e : S.h p with
    | none => exact absurd e hp
    | some _ => rfl, fun p hp hb _ => g'.fr p hb hp⟩
  exact ⟨l, g.le l g'.exb⟩
theorem after_re {S S' : G} {v : V} (ex0 : Ex c.H0 S.h) (g' : GoodH ⟨c.K, c.C, S.h, S.b⟩ S') (r : ReM ⟨c.K, c.C, S.h, S.b⟩ S' m v d) (hm : m = .val ∨ m = .fr ∨ m = .bor) : ReM c (S.after S') m v d := by
  rcases hm with rfl | rfl | rfl
  · exact r
  · have r : ReO ⟨c.K, c.C, S.h, S.b⟩ S' none v d := r
    have ow : ∀ {p}, Ow ⟨c.K, c.C, S.h, S.b⟩ S' none p → Ow c (S.after S') none p := fun {p} w => ⟨by
      show (match S.h p with | none => none | some _ => S.own p) = none
      have := w.h0
      rw [show S.h p = none from this], w.b, ex0.none w.h0⟩
    show ReO c (S.after S') none v d
    cases r with
    | lst w e q => exact .lst (ow w) e q
    | dk w e => exact .dk (ow w) e
    | dp w e => exact .dp (ow w) e
    | arc w1 w2 w3 w4 e0 e1 e2 e3 => exact .arc (ow w1) (ow w2) (ow w3) (ow w4) e0 e1 e2 e3
  · exact r
def okRet : Mo → Bool
  | .val => true | .fr => true | .bor => true | _ => false
theorem okRet_or (h : okRet m = true) : m = .val ∨ m = .fr ∨ m = .bor := by
  cases m <;> first | exact .inl rfl | exact .inr (.inl rfl) | exact .inr (.inr rfl) | cases h
/-- no fresh things in an argument list -/
def nofr (l : List (Mo × D)) : Bool := l.all fun p => !decide (p.1 = .fr)
theorem nofr_ne (h : nofr l = true) : ∀ p ∈ l, p.1 ≠ .fr := fun p hp e => by
  have := List.all_eq_true.mp h p hp
  rw [e] at this; cases this
theorem de_call (F : FnOk X.prog X.w X.K X.mg X.base (L2.CX X.prog X.w) k f fd ps (spT c.K c.C ms enc pre out)) (hr : Room k X.A) (hg : Gl X x) (hm : X.mg x = some (.ref f)) (hk : PySem.W.keepIn X.K (.ref f) = true) (hb : Binds X.K fd ps [])
    (ha : DA X c δ (e :: es) l) (a : α) (hl : l.map (·.2) = enc a) (hmo : msOk l ms = true) (hp : pre a) (ho : out a = .ret m d) (hf : nofr l = true := by rfl) (hrm : okRet m = true := by rfl) (hdb : (x == ("__debug__" : Str)) = false := by decide)
    (he : starEach (e :: es) X.env = (false, eval e X.env) :: starEach es X.env := by rfl) (hpl : (backTo pos (starEach es X.env)).any (·.1) = false := by rfl) : DE X c m δ (.Call (.Name x p) (e :: es) [] pos) d :=
  DE.mkE ha.k (pe_call F hr hg hm hk hb .nil passL ha.pa hdb he hpl) fun S σ g Q q => ⟨S, rfl, g, fun vs S1 l1 g1 r1 => by
    show spT c.K c.C ms enc pre out (vs ++ []) S1.h Q E0
    rw [List.append_nil]
    refine ⟨a, S1.b, g1.exb, hl ▸ argsOk_of g1.toGoodH (nofr_ne hf) hmo r1, hp, ?_⟩
    rw [ho]
    intro v S' g' r
    obtain ⟨l2, g2⟩ := after_le g1 g'
    exact q v (S1.after S') (l1.trans l2) g2 (after_re g1.ex0 g' r (okRet_or hrm))⟩
/-- a call that may raise -/
theorem dx_call (tk : Takes X W) (F : FnOk X.prog X.w X.K X.mg X.base (L2.CX X.prog X.w) k f fd ps (spT c.K c.C ms enc pre out)) (hr : Room k X.A) (hg : Gl X x) (hm : X.mg x = some (.ref f)) (hk : PySem.W.keepIn X.K (.ref f) = true) (hb : Binds X.K fd ps [])
    (ha : DA X c δ (e :: es) l) (a : α) (hl : l.map (·.2) = enc a) (hmo : msOk l ms = true) (hp : pre a) (hrm : ∀ m d, out a = .ret m d → okRet m = true) (hf : nofr l = true := by rfl) (hdb : (x == ("__debug__" : Str)) = false := by decide)
    (he : starEach (e :: es) X.env = (false, eval e X.env) :: starEach es X.env := by rfl) (hpl : (backTo pos (starEach es X.env)).any (·.1) = false := by rfl) : DX X W c δ (.Call (.Name x p) (e :: es) [] pos) (out a) := by
  refine ⟨ha.k, PE.imp (pe_callS F hr hg hm hk hb (fun σ => passAt tk σ) ha.pa hdb he hpl) fun σ H Q h => ?_⟩
  cases ho : out a with
  | ret m d =>
    rw [ho] at h
    obtain ⟨S, rfl, g, q⟩ := h
    refine ⟨S, rfl, g, fun vs S1 l1 g1 r1 => ⟨a, S1.b, g1.exb, hl ▸ argsOk_of g1.toGoodH (nofr_ne hf) hmo r1, hp, ?_⟩⟩
    rw [ho]
    intro v S' g' r
    obtain ⟨l2, g2⟩ := after_le g1 g'
    exact q v (S1.after S') (l1.trans l2) g2 (after_re g1.ex0 g' r (okRet_or (hrm m d ho)))
  | exc b =>
    rw [ho] at h
    obtain ⟨S, rfl, g, q⟩ := h
    refine ⟨S, rfl, g, fun vs S1 l1 g1 r1 => ⟨a, S1.b, g1.exb, hl ▸ argsOk_of g1.toGoodH (nofr_ne hf) hmo r1, hp, ?_⟩⟩
    rw [ho]
    intro S' g'
    obtain ⟨l2, g2⟩ := after_le g1 g'
    exact q (S1.after S') (l1.trans l2).b g2.toGoodH
/-- a method of an Arc: the Arc is lent -/
theorem de_meth {pl : Sem Bool} (hc : Cls X.K c.C) (hme : Meth X.K c.C mn f) (F : FnOk X.prog X.w X.K X.mg X.base (L2.CX X.prog X.w) k f fd ps (spT c.K c.C (.bor :: ms) enc pre out)) (hr : Room k X.A) (hb : Binds X.K fd ps [])
    {row : List Int} {turns : List (Int × Int)} {n : Int} (hoo : DE X c m1 δ o (.arc row turns n)) (hno : ∀ (p q : Addr), ([("row", .ref p), ("turns", .ref q), ("old", .int n)] : List (Str × V)).lookup mn = none) (ha : DA X c δ (e :: es) l) (a : α) (hl : D.arc row turns n :: l.map (·.2) = enc a) (hmo : msOk l ms = true) (hp : pre a) (ho : out a = .ret m d) (hf : nofr l = true := by rfl) (hrm : okRet m = true := by rfl)
    (hst : starEach (e :: es) X.env = (false, eval e X.env) :: starEach es X.env := by rfl) (hpl : (backTo pos (starEach es X.env)).any (·.1) = false := by rfl)
    (ht : eval (.Call (.Attribute o mn apos) (e :: es) [] pos) X.env = (do
      let ov ← eval o X.env
      standAt apos.atName
      let (f, first) ← holding [ov] (getMethod ov mn pl)
      callWith pos f first (backTo pos (starEach (e :: es) X.env)) (backToKw pos (keywordEach [] X.env))) := by rfl) : DE X c m δ (.Call (.Attribute o mn apos) (e :: es) [] pos) d :=
  DE.mkE ha.k (pe_meth hoo.nf.pe hc hme F hr hb .nil passL ha.pa hst hpl ht) fun S σ g Q q => ⟨S, rfl, g, fun x S1 l1 g1 r1 => by
    obtain ⟨a0, dx, p, qq, rfl, h1, h2, h3⟩ := g1.toGoodH.arc r1
    refine ⟨a0, dx, _, rfl, h1, hno p qq, S1, rfl, g1, fun vs S2 l2 g2 r2 => ?_⟩
    show spT c.K c.C (.bor :: ms) enc pre out (.ref a0 :: (vs ++ [])) S2.h Q E0
    rw [List.append_nil]
    refine ⟨a, S2.b, g2.exb, hl ▸ ArgsOk.bor (Good.now g2.toGoodH (ReM.le l2 r1)) (argsOk_of g2.toGoodH (nofr_ne hf) hmo r2), hp, ?_⟩
    rw [ho]
    intro v S' g' r
    obtain ⟨l3, g3⟩ := after_le g2 g'
    exact q v (S2.after S') ((l1.trans l2).trans l3) g3 (after_re g2.ex0 g' r (okRet_or hrm))⟩
theorem de_meth0 {pl : Sem Bool} (hc : Cls X.K c.C) (hme : Meth X.K c.C mn f) (F : FnOk X.prog X.w X.K X.mg X.base (L2.CX X.prog X.w) k f fd ps (spT c.K c.C [.bor] enc pre out)) (hr : Room k X.A) (hb : Binds X.K fd ps [])
    {row : List Int} {turns : List (Int × Int)} {n : Int} (hoo : DE X c m1 δ o (.arc row turns n)) (hno : ∀ (p q : Addr), ([("row", .ref p), ("turns", .ref q), ("old", .int n)] : List (Str × V)).lookup mn = none) (a : α) (hl : [D.arc row turns n] = enc a) (hp : pre a) (ho : out a = .ret m d) (hrm : okRet m = true := by rfl)
    (ht : eval (.Call (.Attribute o mn apos) [] [] pos) X.env = (do
      let ov ← eval o X.env
      standAt apos.atName
      let (f, first) ← holding [ov] (getMethod ov mn pl)
      callWith pos f first (backTo pos (starEach [] X.env)) (backToKw pos (keywordEach [] X.env))) := by rfl) : DE X c m δ (.Call (.Attribute o mn apos) [] [] pos) d :=
  DE.mkE hoo.k (pe_meth0 hoo.nf.pe hc hme F hr hb .nil passL ht) fun S σ g Q q => ⟨S, rfl, g, fun x S1 l1 g1 r1 => by
    obtain ⟨a0, dx, p, qq, rfl, h1, h2, h3⟩ := g1.toGoodH.arc r1
    refine ⟨a0, dx, _, rfl, h1, hno p qq, ?_⟩
    show spT c.K c.C [.bor] enc pre out [.ref a0] S1.h Q E0
    refine ⟨a, S1.b, g1.exb, hl ▸ ArgsOk.bor (Good.now g1.toGoodH r1) .nil, hp, ?_⟩
    rw [ho]
    intro v S' g' r
    obtain ⟨l3, g3⟩ := after_le g1 g'
    exact q v (S1.after S') (l1.trans l3) g3 (after_re g1.ex0 g' r (okRet_or hrm))⟩

/-! statements with what may raise -/
theorem ds_dropX {o : Out} (h : DX X W c δ e o) (hn : ∀ m d, o = .ret m d → Φ.nx δ) (hx : ∀ a, o = .exc a → Φ.xc a) (hs : swapsWith e none pos.line X.env = pure false := by rfl) : DS X W c δ (.Expr e pos) Φ := by
  cases o with
  | ret m d => exact ds_drop h.de (hn m d rfl) hs
  | exc a => exact DS.mkE h.k (ps_expr h.pe hs) fun S σ g D q1 _ _ _ q5 => ⟨S, rfl, g, fun S' l g' => q5 a S' σ l g' (hx a rfl)⟩
theorem ds_setX {a : Addr} (h : DX X W c δ e (.exc a)) (hN : X.N.Nodup) (hx : X.N[i]? = some x) (hl : Loc X.env.scope x) (hxc : Φ.xc a) (hs : swapsWith e (some (.Name x p1)) pos.line X.env = pure false := by rfl)
    (hf : X.fn x = true ∨ X.env.scope.names.lookup x = some .local := by first | exact .inl rfl | exact .inr rfl | assumption) : DS X W c δ (.Assign [.Name x p1] e pos) Φ :=
  DS.mkE h.k (ps_set hN hx hl h.pe hs hf) fun S σ g D _ _ _ _ q5 => ⟨S, rfl, g, fun S' l g' => q5 a S' σ l g' hxc⟩
theorem ds_retX {a : Addr} (h : DX X W c δ e (.exc a)) (hxc : Φ.xc a) : DS X W c δ (.Return (some e) pos) Φ :=
  DS.mkE h.k (ps_ret h.pe) fun S σ g D _ _ _ _ q5 => ⟨S, rfl, g, fun S' l g' => q5 a S' σ l g' hxc⟩
/-- raise X(..) -/
theorem ds_raise {a : Addr} {e : Expr} (k : X.K = c.K) (hc : X.calm = true) (tk : Takes X W) (h : PMk X e (fun _ H Q => Q (.ref a) none H)) (hx : Φ.xc a) : DS X W c δ (.Raise (some e) none pos) Φ :=
  DS.mkE k (ps_raise hc tk h) fun S σ g D _ _ _ _ q5 => q5 a S σ (Ex.refl _) g.toGoodH hx
end
end Ov

/-! D-layer: rules chosen by the data. -/
namespace Ov
open PySem L2 PySem.Spec PyProof.Rows

/-- a comparison by its operands' data, as a test -/
def Cm (X : Cx) (c : Cc) (op : CmpOp) (b : Expr) (m1 : Mo) (d1 : D) (m2 : Mo) (d2 : D) (k : Bool) : Prop :=
  ∀ δ a pos, DE X c m1 δ a d1 → DE X c m2 δ b d2 → DT X c δ (.Compare a [op] [b] pos) k
/-- .. as a value -/
def Cv (X : Cx) (c : Cc) (op : CmpOp) (b : Expr) (m1 : Mo) (d1 : D) (m2 : Mo) (d2 : D) (k : Bool) : Prop :=
  ∀ δ a pos, DE X c m1 δ a d1 → DE X c m2 δ b d2 → DE X c .val δ (.Compare a [op] [b] pos) (.bl k)
/-- a subscript by its operands' data -/
def Sb (X : Cx) (c : Cc) (b : Expr) (m1 : Mo) (d1 : D) (m2 : Mo) (d2 : D) (m : Mo) (d : D) : Prop :=
  ∀ δ a pos, DE X c m1 δ a d1 → DE X c m2 δ b d2 → DE X c m δ (.Subscript a b pos) d
section
variable {X : Cx} {c : Cc} {δ : List Sl} {a b e : Expr} {pos : Pos} {m m1 m2 : Mo} {d d1 d2 : D} {op : CmpOp} {k : Bool} {i j : Int} {ns : List Int} {kvs : List (Int × V)} {kis : List (Int × Int)} {kps : List ((Int × Int) × Int)} {ds : List D}
theorem dt_cm (ha : DE X c m1 δ a d1) (hb : DE X c m2 δ b d2) (h : Cm X c op b m1 d1 m2 d2 k) : DT X c δ (.Compare a [op] [b] pos) k := h δ a pos ha hb
theorem de_cm (ha : DE X c m1 δ a d1) (hb : DE X c m2 δ b d2) (h : Cv X c op b m1 d1 m2 d2 k) : DE X c .val δ (.Compare a [op] [b] pos) (.bl k) := h δ a pos ha hb
theorem de_sb (ha : DE X c m1 δ a d1) (hb : DE X c m2 δ b d2) (h : Sb X c b m1 d1 m2 d2 m d) : DE X c m δ (.Subscript a b pos) d := h δ a pos ha hb
theorem cm_of (ho : Op2 X c (compareOp op) (nf m1) d1 (nf m2) d2 .val (.bl k)) (hm : behindInMarks op b = false) : Cm X c op b m1 d1 m2 d2 k := fun δ a pos ha hb => dt_cmp ha hb ho hm
theorem cv_of (ho : Op2 X c (compareOp op) (nf m1) d1 (nf m2) d2 .val (.bl k)) (hm : behindInMarks op b = false) : Cv X c op b m1 d1 m2 d2 k := fun δ a pos ha hb => de_cmp ha hb ho hm
theorem cm_inK (hu : X.A.units + 1 < cLine) (hm : behindInMarks .In b = false) : Cm X c .In b m1 (.int i) m2 (.dk kvs) (dget kvs i).isSome := fun δ a pos ha hb => dt_inK hu ha hb hm
theorem cm_ninK (hu : X.A.units + 1 < cLine) (hm : behindInMarks .NotIn b = false) : Cm X c .NotIn b m1 (.int i) m2 (.dk kvs) (!(dget kvs i).isSome) := fun δ a pos ha hb => dt_ninK hu ha hb hm
theorem cm_ninI (hu : X.A.units + 1 < cLine) (hm : behindInMarks .NotIn b = false) : Cm X c .NotIn b m1 (.int i) m2 (.dk (iv kis)) (!(dget kis i).isSome) := fun δ a pos ha hb => (dt_ninK hu ha hb hm).cast (by rw [iv_get, Option.isSome_map])
theorem cm_ninP (hu : X.A.units + 1 < cLine) (hm : behindInMarks .NotIn b = false) : Cm X c .NotIn b m1 (.pk i j) m2 (.dp kps) (!(dget kps (i, j)).isSome) := fun δ a pos ha hb => dt_ninP hu ha hb hm
theorem sb_ix (ho : Ix X c (nf m1) d1 (nf m2) d2 m d) (hp : PlainIx b) : Sb X c b m1 d1 m2 d2 m d := fun δ a pos ha hb => de_ix ha hb ho hp
theorem sb_K (hu : X.A.units + 1 < cLine) (hs : NoSl b) {x : V} (hg : dget kvs i = some x) (hx : ∀ K C H, Re K C H x d) : Sb X c b m1 (.dk kvs) m2 (.int i) .val d := fun δ a pos ha hb => de_getK hu ha hb hs hg hx
theorem sb_I {n : Int} (hu : X.A.units + 1 < cLine) (hs : NoSl b) (hg : dget kis i = some n) : Sb X c b m1 (.dk (iv kis)) m2 (.int i) .val (.int n) := fun δ a pos ha hb => de_getI hu ha hb hs hg
theorem sb_P {n : Int} (hu : X.A.units + 1 < cLine) (hs : NoSl b) (hg : dget kps (i, j) = some n) : Sb X c b m1 (.dp kps) m2 (.pk i j) .val (.int n) := fun δ a pos ha hb => de_getP hu ha hb hs hg

theorem de_globI' {x : Str} (k : X.K = c.K) (hg : Gl X x) (hm : ∃ t, X.mg x = some (.int i t)) (hd : (x == ("__debug__" : Str)) = false := by decide) : DE X c .val δ (.Name x pos) (.int i) := by
  obtain ⟨t, hm⟩ := hm
  exact de_globI k hg hm hd
/-- the facts of a def of the text -/
structure Fn (K : PySem.W.Frag) (mg : Str → Option Value) (x qual : Str) (st : Stmt) (f : Addr) (fd : FuncData) (ps : List Str) : Prop where
  F : Fun K x qual st f fd
  g : mg x = some (.ref f)
  b : Binds K fd ps []
theorem ltl {n : Nat} {l : List Sl} (h : n < l.length) : n < l.length := h
end
end Ov

/-! D-layer: isinstance, chains, len(set(..)), max(d.values()), list.index, the making of an Arc. -/
namespace Ov
open PySem L2 PySem.Spec PyProof.Rows

/-! ### isinstance(x, T), T a built-in type -/
def tyOf : D → String
  | .non => "NoneType" | .bl _ => "bool" | .int _ => "int" | .str _ => "str" | .lst _ => "list" | .tup _ => "tuple" | .dk _ => "dict" | .dp _ => "dict" | .arc _ _ _ => "" | .scr _ => "" | .pk _ _ => "" | .exr _ => ""
def isTy (d : D) (T : String) : Bool := (kitB (tyOf d) T).getD false
section
variable {X : Cx} {c : Cc} {δ : List Sl} {a b e : Expr} {pos p p2 : Pos} {m m1 m2 m3 : Mo} {d d1 d2 d3 : D} {k k1 k2 : Bool}
def tyOk : D → Bool
  | .arc _ _ _ => false | .scr _ => false | .pk _ _ => false | .exr _ => false | _ => true
theorem Re.ty {K : PySem.W.Frag} {C : Addr} {H : Hp} {v : V} {d : D} (r : Re K C H v d) (h : tyOk d = true) : TyX K H v (.type (tyOf d)) := by
  cases r with
  | non => exact .base .non
  | bl b => exact .base (.bl b)
  | int i => exact .base (.int i)
  | str x => exact .base (.str x)
  | lst e _ => exact .base (.lst e)
  | tup e _ => obtain ⟨ob, q, _⟩ := e; exact .fTuple q
  | dk e => exact .base (.dK e)
  | dp e => exact .base (.dT e)
  | arc _ _ _ => cases h
  | scr _ => cases h
  | pk _ => cases h
  | exr _ => cases h
theorem de_isi {T : Str} {n : String} (ha : DE X c m δ a d) (hd : tyOk d = true) (hk : kitB (tyOf d) n = some k) (hg : Gl X "isinstance") (hm : X.mg "isinstance" = none) (hgT : Gl X T) (hmT : X.mg T = none) (hvT : bootBuiltins T = some (.type n)) (hn : T ≠ "__name__" := by decide) (hdb : (T == ("__debug__" : Str)) = false := by decide)
    (he : starEach [a, .Name T p2] X.env = (false, eval a X.env) :: starEach [.Name T p2] X.env := by rfl) (he2 : starEach [.Name T p2] X.env = (false, eval (.Name T p2) X.env) :: starEach [] X.env := by rfl) (hpl : (backTo pos (starEach [.Name T p2] X.env)).any (·.1) = false := by rfl) :
    DE X c .val δ (.Call (.Name "isinstance" p) [a, .Name T p2] [] pos) (.bl k) :=
  DE.mkE ha.k (pe_callB call_isi hg hm boot_isinstance (pa_cons ha.nf.pe (pa_cons (pe_bltn (v := .ty n) hgT hmT hvT rfl hn hdb) pa_nil he2) he) (by decide) (by decide) he hpl) fun S σ g Q q => ⟨S, rfl, g, fun v S1 l1 g1 r1 =>
    ⟨v, .ty n, .type (tyOf d), .type n, k, rfl, .ty n, ha.k ▸ (Good.now g1.toGoodH r1).ty hd, kit_ty hk, q _ S1 l1 g1 (.bl k)⟩⟩

/-! ### a < b < c -/
theorem dt_chain {op op' : CmpOp} {cc : Expr} (ha : DE X c m1 δ a d1) (hb : DE X c m2 δ b d2) (hc : k1 = true → DE X c m3 δ cc d3) (h1 : Op2 X c (compareOp op) (nf m1) d1 (nf m2) d2 .val (.bl k1)) (h2 : k1 = true → Op2 X c (compareOp op') (nf m2) d2 (nf m3) d3 .val (.bl k2))
    (hm : lastMarks [op, op'] [b, cc] = false := by with_unfolding_all rfl) (h2' : k1 = false → ∃ r, OpR X (compareOp op') r) : DT X c δ (.Compare a [op, op'] [b, cc] pos) (k1 && k2) := by
  obtain ⟨r, hr, hq⟩ := h1
  cases k1 with
  | true =>
    obtain ⟨r', hr', hq'⟩ := h2 rfl
    exact DT.mkE ha.k (pt_chain hr hr' ha.nf.pe hb.nf.pe (hc rfl).nf.pe hm) fun S σ g Q q => ⟨S, rfl, g, fun x S1 l1 g1 r1 => ⟨S1, rfl, g1, fun y S2 l2 g2 r2 =>
      hq δ S2 σ x y g2 (ReM.le l2 r1) r2 _ fun z S3 l3 g3 r3 => ⟨true, ReM.blI r3, by
        rw [if_pos rfl]
        exact ⟨S3, rfl, g3, fun w S4 l4 g4 r4 => hq' δ S4 σ y w g4 (ReM.le (l3.trans l4) r2) r4 _ fun u S5 l5 g5 r5 => ⟨k2, ReM.blI r5, q S5 ((((l1.trans l2).trans l3).trans l4).trans l5) g5⟩⟩⟩⟩⟩
  | false =>
    obtain ⟨r', hr'⟩ := h2' rfl
    exact DT.mkE ha.k (pt_chain hr hr' ha.nf.pe hb.nf.pe PE.never hm) fun S σ g Q q => ⟨S, rfl, g, fun x S1 l1 g1 r1 => ⟨S1, rfl, g1, fun y S2 l2 g2 r2 =>
      hq δ S2 σ x y g2 (ReM.le l2 r1) r2 _ fun z S3 l3 g3 r3 => ⟨false, ReM.blI r3, by
        show ∃ k, V.bl false = .bl k ∧ Q k S3.h
        exact ⟨false, rfl, q S3 ((l1.trans l2).trans l3) g3⟩⟩⟩⟩

/-! ### len(set(xs)) -/
def dd (ns : List Int) : List Int := ns.foldl (fun acc x => if x ∈ acc then acc else acc ++ [x]) []
theorem step_dd (acc : List Int) (x : Int) : PyProof.Rows.step_dedup acc x = if x ∈ acc then acc else acc ++ [x] := by
  unfold PyProof.Rows.step_dedup
  have : acc.any (· == x) = decide (x ∈ acc) := by
    rw [List.any_beq']
    by_cases h : x ∈ acc
    · simp [h]
    · simp [h]
  rw [this]
  by_cases h : x ∈ acc <;> simp [h]
theorem firstMet_dd (ns : List Int) : PyProof.Rows.firstMet (fun i => ns.getD i 0) ns.length = dd ns := by
  have e : (List.range ns.length).map (fun i => ns.getD i 0) = ns := by
    apply List.ext_getElem
    · simp
    · intro i h1 h2
      simp only [List.getElem_map, List.getElem_range, List.getD_eq_getElem?_getD, List.getElem?_eq_getElem h2, Option.getD_some]
  unfold PyProof.Rows.firstMet dd
  rw [e]
  congr 1
  funext acc x
  exact step_dd acc x
def tLenSet (K : PySem.W.Frag) (ta : TE) : TE := fun σ H Q => ta σ H fun x H1 => ∃ (l : Addr) (ns : List Int), x = .ref l ∧ SqL K H1 l (ns.map V.int) ∧ ns.length ≤ 4000 ∧ Q (.int ((dd ns).length : Nat)) H1
theorem pe_lenSet {X : Cx} {a : Expr} {ta : TE} {p p2 q pos : Pos} (hg : Gl X "len") (hm : X.mg "len" = none) (hg2 : Gl X "set") (hm2 : X.mg "set" = none) (ha : PE X a ta) (hc : X.calm = true := by rfl)
    (na : starEach [a] X.env = (false, eval a X.env) :: starEach [] X.env := by rfl) : PE X (.Call (.Name "len" p) [.Call (.Name "set" p2) [a] [] q] [] pos) (tLenSet X.K ta) := by
  refine ⟨fun pins s σ H Q I h => ?_⟩
  refine Call_ (ld_blt I hg hm boot_len ?_)
  refine PyProof.Rows.callWith_builtin1 (PyProof.Rows.args_cons ?_ rfl) rfl rfl
  refine Call_ (ld_blt I hg2 hm2 boot_set ?_)
  refine PyProof.Rows.callWith_type1 (PyProof.Rows.args_cons (thn (ha.run pins s σ H _ I h) fun v s1 ⟨x, H1, I1, r1, q1⟩ => PyProof.Rows.args_nil ?_) na) na rfl
  obtain ⟨l, ns, rfl, hq, hl, q1⟩ := q1
  cases r1
  obtain ⟨its, r, pl, hz⟩ := I1.list hq
  have hlen : its.toArray.size = ns.length := by rw [List.size_toArray, ← r.length, List.length_map]
  refine call_set_list (I1.ok.hd hc) pl.isList (by simpa using RZ.intsAre_vals r) (by rw [hlen]; unfold scanBound; omega) fun h' tk hS hk => ?_
  refine PyProof.Rows.args_nil ?_
  rw [hlen, firstMet_dd] at hS
  obtain ⟨o, es, ep, t, ho, hex, hd, _, _, _, hf, hn⟩ := hS
  have I2 : Inv X pins σ H1 { s1 with heap := h', toks := tk } := I1.kept fun b o e => hk b o (Heap.lt_size e) e
  have hle : (dd ns).length ≤ 4000 := by
    have := PyProof.Rows.firstMet_length_le (fun i => ns.getD i 0) ns.length
    rw [firstMet_dd] at this
    omega
  exact call_len_set ho hex hd hf (by rw [hn] <;> omega) ⟨.int (dd ns).length, H1, I2.tok _, ⟨_, by rw [hn]⟩, q1⟩
theorem de_lenSet {ns : List Int} {q : Pos} (ha : DE X c m δ a (.lst (ns.map D.int))) (hl : ns.length ≤ 4000) (hg : Gl X "len") (hm : X.mg "len" = none) (hg2 : Gl X "set") (hm2 : X.mg "set" = none) (hc : X.calm = true := by rfl)
    (na : starEach [a] X.env = (false, eval a X.env) :: starEach [] X.env := by rfl) : DE X c .val δ (.Call (.Name "len" p) [.Call (.Name "set" p2) [a] [] q] [] pos) (.int (dd ns).length) :=
  DE.mkE ha.k (pe_lenSet hg hm hg2 hm2 ha.nf.pe hc na) fun S σ g Q qq => ⟨S, rfl, g, fun v S1 l1 g1 r1 => by
    obtain ⟨p, e, h⟩ := g1.toGoodH.lstI r1
    exact ⟨p, ns, e, SqL.of h, hl, qq _ S1 l1 g1 (.int _)⟩⟩

/-! ### max(d.values()), the keys pairs -/
theorem pgetO {α β : Type} {F : α → β → Prop} : ∀ {l₁ : List α} {l₂ : List β} {i : Nat} {x : α}, Paired F l₁ l₂ → l₁[i]? = some x → ∃ y, l₂[i]? = some y ∧ F x y
  | _, _, _, _, .nil, h => by simp at h
  | _, _, 0, _, .cons r _, h => by simp at h; subst h; exact ⟨_, rfl, r⟩
  | _, _, i + 1, x, .cons _ s, h => by
    obtain ⟨v, h1, h2⟩ := pgetO (i := i) (x := x) s (by simpa using h)
    exact ⟨v, by simpa using h1, h2⟩
def valsO (p d : Addr) : HO := .ext fun h => h.IsValuesView p d
theorem valsO_ok {P : Program} {w : World} {H : Hp} {h : Heap} {p d : Addr} (e : h.get? p = some { cls := .type "dict_values", data := .fields #[.ref d] }) : ObjOk P w H h p (valsO p d) :=
  ⟨⟨_, e, rfl, rfl⟩, ⟨_, e⟩, fun h1 h2 x k => let ⟨o, ho, r⟩ := x; ⟨o, k o ho, r⟩⟩
def rValsT : V → List V → Hp → VK → Prop := fun x xs H Q => ∃ (a : Addr) (kvs : List (List Key × V)), x = .ref a ∧ xs = [] ∧ H a = some (.dT kvs) ∧ ∀ p, H p = none → Q (.ref p) (upd H p (valsO p a))
theorem mt_valsT : MtR X "dict.values" rValsT := by
  intro pins s σ H x xs v us Q I rx rxs h
  obtain ⟨a, kvs, rfl, rfl, ha, q⟩ := h
  cases rx
  cases rxs
  obtain ⟨z, hd, xs', rel, o, es, ep, ho, hx, hdat, _⟩ := dt_of I.hok ha
  have hraw : s.heap.DictRaw a es ep := ⟨o, ho, hx, hdat⟩
  refine call_meetsIn PySem.F.slot_dict_values hraw.typeIs PySem.F.entry_dict_values (PySem.F.args_dict_values_1 _) (meets_dict_values_raw a hd) ⟨⟨es, ep, hraw⟩, ?_⟩
  have hf : H s.heap.objs.size = none := I.hok.fresh (Nat.le_refl _)
  exact ⟨.ref s.heap.objs.size, upd H s.heap.objs.size (valsO s.heap.objs.size a), I.laid (t' := s.toks) (fun b u e => Heap.get?_push_of_some _ e) (Nat.le_refl _) (valsO_ok (Heap.get?_push_size _ rfl)), rfl, q _ hf⟩
def rMaxVT : List V → Hp → VK → Prop := fun xs H Q => ∃ (p a : Addr) (kvs : List (List Key × V)) (ns : List Int), xs = [.ref p] ∧ H p = some (valsO p a) ∧ H a = some (.dT kvs) ∧ kvs.map Prod.snd = ns.map V.int ∧ ns ≠ [] ∧ Q (.int (imax ns)) H
theorem cr_maxVT (hc : X.calm = true) : CallR X (.builtin "max") rMaxVT := by
  intro pins s σ H xs us Q I rx h
  obtain ⟨p, a, kvs, ns, rfl, hp, hd, hns, hne, q⟩ := h
  rw [Vals.ref1 rx]
  have hv : s.heap.IsValuesView p a := (show ObjOk X.prog X.w H s.heap p (valsO p a) from I.hok p _ hp).1
  obtain ⟨z, hsd, ys, rel, o, es, ep, ho, hx, hdat, hes, _⟩ := dt_of I.hok hd
  have hraw : s.heap.DictRaw a es ep := ⟨o, ho, hx, hdat⟩
  have hlr : ∀ {l1 : List (List Key × V)} {l2 : List (List Key × Addr × Value)}, KT H l1 l2 → l1.length = l2.length := fun r => Paired.length r
  have hkn : kvs.length = ns.length := by
    have e := congrArg List.length hns
    rw [List.length_map, List.length_map] at e
    exact e
  have hsz : es.size = ns.length := by
    have e := congrArg List.length hes
    rw [List.length_map, Array.length_toList] at e
    rw [e, ← hlr rel, hkn]
  have hP : ∀ (i : Nat) (v : Value), (∃ hi : i < es.size, v = es[i].val) → ∃ t, v = .int (ns.getD i 0) t := by
    rintro i v ⟨hi, rfl⟩
    have hi1 : i < ys.length := by rw [← hlr rel, hkn, ← hsz]; exact hi
    have hi2 : i < kvs.length := by rw [hlr rel]; exact hi1
    have hi3 : i < ns.length := by omega
    obtain ⟨y, hy, hr⟩ := pgetO rel (List.getElem?_eq_getElem hi2)
    have e1 : es.toList[i]? = some (entryOfKey (tupleKind (mixKind X.prog X.w)) y) := by rw [hes, List.getElem?_map, hy]; rfl
    have e2 : es[i] = entryOfKey (tupleKind (mixKind X.prog X.w)) y := by
      rw [Array.getElem?_toList, Array.getElem?_eq_getElem hi] at e1
      exact Option.some.inj e1
    have e3 : kvs[i].2 = V.int ns[i] := by
      have z : (kvs.map Prod.snd)[i]? = (ns.map V.int)[i]? := by rw [hns]
      rw [List.getElem?_map, List.getElem?_map, List.getElem?_eq_getElem hi2, List.getElem?_eq_getElem hi3] at z
      exact Option.some.inj z
    have e4 : ns.getD i 0 = ns[i] := by rw [List.getD_eq_getElem?_getD, List.getElem?_eq_getElem hi3] <;> rfl
    have r2 := hr.2.2
    rw [e3] at r2
    rw [e2, e4]
    exact r2
  refine call_max_walk ?_
  refine wpAny_pyIter_values_raw hv hraw ?_
  have ha : a < s.heap.objs.size := Heap.lt_size ho
  have hpos : 0 < ns.length := List.length_pos_iff.mpr hne
  refine ⟨s.heap.objs.size, [s.heap.objs.size, a], [s.heap.objs.size], es.size, fun i v => ∃ hi : i < es.size, v = es[i].val, _, fun i j => decide (ns.getD i 0 > ns.getD j 0), rfl, Walks.rawValues (show X.A.in1.handled = none from I.ok.hd hc) _ a (Nat.ne_of_lt ha) es ep,
    ⟨⟨_, Heap.get?_push_size _ rfl, rfl, rfl⟩, hraw.at fun o e => Heap.get?_push_of_some _ e⟩, fun b hb => ?_, by omega, CmpOf.ints_gt (fun i => ns.getD i 0) (fun i v z => hP i v z), fun v h' tk hv' hk => ?_⟩
  · show b < (s.heap.push _).objs.size
    rw [size_push']
    rcases List.mem_cons.mp hb with z | z
    · rw [z]
      exact Nat.lt_succ_self _
    · rw [List.mem_singleton.mp z]
      exact Nat.lt_succ_of_lt ha
  · obtain ⟨t, rfl⟩ := hP _ _ hv'
    obtain ⟨m1', m2'⟩ := argBest_gt (fun i => ns.getD i 0) (es.size - 1)
    have m1 : argBest (fun i j => decide (ns.getD i 0 > ns.getD j 0)) (es.size - 1) ≤ es.size - 1 := m1'
    have m2 : ∀ j, j ≤ es.size - 1 → ns.getD j 0 ≤ ns.getD (argBest (fun i j => decide (ns.getD i 0 > ns.getD j 0)) (es.size - 1)) 0 := m2'
    have hk2 : ∀ b o, s.heap.get? b = some o → h'.get? b = some o := fun b o e => hk b o (fun z => by rw [List.mem_singleton.mp z] at e; exact absurd (Heap.lt_size e) (Nat.lt_irrefl _)) (Heap.get?_push_of_some _ e)
    have em : ns.getD (argBest (fun i j => decide (ns.getD i 0 > ns.getD j 0)) (es.size - 1)) 0 = imax ns := by
      refine imax_eq (PySem.getD_mem (by omega)) fun y hy => ?_
      obtain ⟨j, hj, e⟩ := List.mem_iff_getElem.mp hy
      have z := m2 j (by omega)
      have e3 : ns.getD j 0 = y := by rw [List.getD_eq_getElem?_getD, List.getElem?_eq_getElem hj, ← e] <;> rfl
      rw [e3] at z
      exact z
    exact ⟨.int _, H, I.kept (t' := tk) hk2, ⟨t, rfl⟩, em ▸ q⟩
theorem de_maxVals {kps : List ((Int × Int) × Int)} {apos : Pos} (h : DE X c m δ e (.dp kps)) (h0 : kps ≠ []) (hg : Gl X "max") (hm : X.mg "max" = none) (hc : X.calm = true)
    (hbm : ∀ t, PE X e t → PE X (.Call (.Attribute e "values" apos) [] [] p2) (tBM0 X.K "dict" rValsT t))
    (he : starEach [.Call (.Attribute e "values" apos) [] [] p2] X.env = (false, eval (.Call (.Attribute e "values" apos) [] [] p2) X.env) :: starEach [] X.env := by rfl) (hpl : (backTo pos (starEach [] X.env)).any (·.1) = false := by rfl) :
    DE X c .val δ (.Call (.Name "max" p) [.Call (.Attribute e "values" apos) [] [] p2] [] pos) (.int (imax (kps.map (·.2)))) :=
  DE.mkE h.k (pe_callB (cr_maxVT hc) hg hm boot_max (pa_cons (hbm _ h.nf.pe) pa_nil he) (by decide) (by decide) he hpl) fun S σ g Q q => ⟨S, rfl, g, fun v S1 l1 g1 r1 => by
    obtain ⟨a, rfl, ha⟩ := g1.toGoodH.dp r1
    refine ⟨.inr (.inr (.inl ⟨rfl, .inr ⟨_, ha⟩⟩)), a, _, rfl, rfl, ha, fun p hp => ?_⟩
    refine ⟨p, a, kpv kps, kps.map (·.2), rfl, upd_same, by rw [upd_ne (ne_of_none ha hp)]; exact ha, by rw [List.map_map, List.map_map]; rfl, by simpa using h0, ?_⟩
    exact q _ (S1.addO p (valsO p a)) (l1.trans (Le.addO hp)) (g1.addO hp) (.int _)⟩
end
end Ov

/-! D-layer: the making of an Arc. -/
namespace Ov
open PySem L2 PySem.Spec PyProof.Rows
/-- what Arc.__init__ does -/
def spInit (C : Addr) : Sp := fun vs H Q _ => ∃ (x dx p q : Addr) (row : List Int) (turns : List (Int × Int)), vs = [.ref x, .ref p, .ref q] ∧ H x = some (.ins C dx []) ∧ H p = some (.lst (row.map V.int)) ∧ H q = some (.dK (kkv (iv turns))) ∧
  ∀ p' q' H', H p' = none → H q' = none → p' ≠ q' → H' x = some (.ins C dx [("row", .ref p'), ("turns", .ref q'), ("old", .int row.length)]) → H' p' = some (.lst (row.map V.int)) → H' q' = some (.dK (kkv (iv turns))) →
    (∀ b, b ≠ x → b ≠ p' → b ≠ q' → H' b = H b) → Q .non H'
section
variable {X : Cx} {c : Cc} {δ : List Sl} {a b : Expr} {pos p : Pos} {m1 m2 : Mo} {x : Str} {f : Addr} {fd : FuncData} {k : Nat} {row : List Int} {turns : List (Int × Int)}
theorem de_make (M : Mk X.K c.C f) (F : FnOk X.prog X.w X.K X.mg X.base (L2.CX X.prog X.w) k f fd ["self", "row", "turns"] (spInit c.C)) (hr : Room (k + 1) X.A) (hg : Gl X x) (hm : X.mg x = some (.ref c.C)) (hb : Binds X.K fd ["self", "row", "turns"] [])
    (ha : DE X c m1 δ a (.lst (row.map D.int))) (hbb : DE X c m2 δ b (.dk (iv turns))) (hdb : (x == ("__debug__" : Str)) = false := by decide) (he : starEach [a, b] X.env = (false, eval a X.env) :: starEach [b] X.env := by rfl)
    (he2 : starEach [b] X.env = (false, eval b X.env) :: starEach [] X.env := by rfl) (hpl : (backTo pos (starEach [b] X.env)).any (·.1) = false := by rfl) :
    DE X c .fr δ (.Call (.Name x p) [a, b] [] pos) (.arc row turns row.length) :=
  DE.mkE ha.k (pe_make M F hr hg hm hb .nil passL (pa_cons ha.nf.pe (pa_cons hbb.nf.pe pa_nil he2) he) hdb he hpl) fun S σ g Q q => ⟨S, rfl, g, fun v1 S1 l1 g1 r1 => ⟨S1, rfl, g1, fun v2 S2 l2 g2 r2 => by
    intro x dx hx hdx hne
    obtain ⟨p, rfl, hp⟩ := g2.toGoodH.lstI (ReM.le l2 r1)
    obtain ⟨qq, rfl, hq⟩ := g2.toGoodH.dk r2
    have npx : p ≠ x := ne_of_none hp hx
    have npd : p ≠ dx := ne_of_none hp hdx
    have nqx : qq ≠ x := ne_of_none hq hx
    have nqd : qq ≠ dx := ne_of_none hq hdx
    show spInit c.C ([.ref x, .ref p, .ref qq] ++ []) _ _ E0
    rw [List.append_nil]
    refine ⟨x, dx, p, qq, row, turns, rfl, upd_same, ?_, ?_, ?_⟩
    · rw [upd_ne npx, upd_ne npd]; exact hp
    · rw [upd_ne nqx, upd_ne nqd]; exact hq
    · intro p' q' H' hp' hq' hpq h1 h2 h3 h4
      refine ⟨rfl, ?_⟩
      have np'x : p' ≠ x := fun z => by subst z; rw [upd_same] at hp'; cases hp'
      have nq'x : q' ≠ x := fun z => by subst z; rw [upd_same] at hq'; cases hq'
      have hp'' : (upd S2.h dx (.own x)) p' = none := by rw [upd_ne np'x] at hp'; exact hp'
      have hq'' : (upd S2.h dx (.own x)) q' = none := by rw [upd_ne nq'x] at hq'; exact hq'
      have np'd : p' ≠ dx := fun z => by subst z; rw [upd_same] at hp''; cases hp''
      have nq'd : q' ≠ dx := fun z => by subst z; rw [upd_same] at hq''; cases hq''
      rw [upd_ne np'd] at hp''
      rw [upd_ne nq'd] at hq''
      have hdx' : H' dx = some (.own x) := by
        rw [h4 dx hne np'd.symm nq'd.symm, upd_ne hne, upd_same]
      have ex : Ex S2.h H' := fun b o e => by
        rw [h4 b (ne_of_none e hx) (ne_of_none e hp'') (ne_of_none e hq''), upd_ne (ne_of_none e hx), upd_ne (ne_of_none e hdx)]
        exact e
      have l3 : Le c S2 ⟨fun z => match S2.h z with | none => none | some _ => S2.own z, S2.b, H'⟩ := ⟨Ex.refl _, ex, fun z hz => by
        show (match S2.h z with | none => none | some _ => S2.own z) = S2.own z
        cases e : S2.h z with
        | none => exact absurd e hz
        | some _ => rfl, fun _ _ h _ => h⟩
      have ow : ∀ z, S2.h z = none → Ow c ⟨fun z => match S2.h z with | none => none | some _ => S2.own z, S2.b, H'⟩ none z := fun z hz => ⟨by
        show (match S2.h z with | none => none | some _ => S2.own z) = none
        rw [hz], g2.exb.none hz, g2.ex0.none hz⟩
      refine q (.ref x) ⟨fun z => match S2.h z with | none => none | some _ => S2.own z, S2.b, H'⟩ ((l1.trans l2).trans l3) (g2.le l3 (g2.exb.trans ex)) ?_
      exact .arc (ow x hx) (ow dx hdx) (ow p' hp'') (ow q' hq'') hdx' h1 h2 h3⟩⟩
end
end Ov

/-! Mirrors of the program's defs, in plain Lean. -/
namespace Ov
open L2
section
variable {α β : Type} [DecidableEq α]
theorem dget_nil (k : α) : dget ([] : List (α × β)) k = none := rfl
theorem dget_cons (p : α × β) (r : List (α × β)) (k : α) : dget (p :: r) k = if p.1 = k then some p.2 else dget r k := by
  by_cases h : p.1 = k <;> simp [dget, h]
theorem dget_append (a b : List (α × β)) (k : α) : dget (a ++ b) k = (dget a k).or (dget b k) := by
  induction a with
  | nil => simp [dget]
  | cons p r ih => rw [List.cons_append, dget_cons, dget_cons, ih]; split <;> simp
theorem any_iff (kvs : List (α × β)) (k : α) : (kvs.any fun p => decide (p.1 = k)) = (dget kvs k).isSome := by
  induction kvs with
  | nil => rfl
  | cons p r ih => rw [List.any_cons, dget_cons, ih]; by_cases h : p.1 = k <;> simp [h]
theorem dget_map_put (kvs : List (α × β)) (k j : α) (v : β) : dget (kvs.map fun p => if p.1 = k then (p.1, v) else p) j = if j = k then (dget kvs j).map fun _ => v else dget kvs j := by
  induction kvs with
  | nil => simp [dget]
  | cons p r ih =>
    rw [List.map_cons, dget_cons, dget_cons, ih]
    by_cases h1 : p.1 = k
    · simp only [h1, if_true]
      by_cases h2 : k = j
      · subst h2; simp
      · have h3 : ¬ j = k := fun z => h2 z.symm
        simp [h2, h3]
    · simp only [h1, if_false]
      by_cases h2 : p.1 = j
      · subst h2; simp [h1]
      · simp [h2]
theorem dget_dput (kvs : List (α × β)) (k j : α) (v : β) : dget (dput kvs k v) j = if j = k then some v else dget kvs j := by
  unfold dput
  rw [any_iff]
  by_cases h : (dget kvs k).isSome = true
  · rw [if_pos h, dget_map_put]
    by_cases hj : j = k
    · subst hj
      rw [if_pos rfl, if_pos rfl]
      obtain ⟨x, hx⟩ := Option.isSome_iff_exists.mp h
      rw [hx]; rfl
    · rw [if_neg hj, if_neg hj]
  · rw [if_neg h, dget_append]
    have h0 : dget kvs k = none := by simpa using h
    by_cases hj : j = k
    · subst hj
      rw [if_pos rfl, h0]; simp [dget]
    · rw [if_neg hj]
      have hj' : ¬ k = j := fun z => hj z.symm
      simp [dget, hj']
theorem dget_same (kvs : List (α × β)) (k : α) (v : β) : dget (dput kvs k v) k = some v := by rw [dget_dput, if_pos rfl]
theorem dput_new {kvs : List (α × β)} {k : α} (h : dget kvs k = none) (v : β) : dput kvs k v = kvs ++ [(k, v)] := by
  unfold dput
  rw [any_iff, h]; simp
theorem dget_mem {kvs : List (α × β)} {k : α} {v : β} (h : dget kvs k = some v) : (k, v) ∈ kvs := by
  induction kvs with
  | nil => cases h
  | cons p r ih =>
    rw [dget_cons] at h
    split at h
    · rename_i e
      cases h; subst e
      exact List.mem_cons_self
    · exact List.mem_cons_of_mem _ (ih h)
theorem dget_none_iff (kvs : List (α × β)) (k : α) : dget kvs k = none ↔ k ∉ kvs.map (·.1) := by
  induction kvs with
  | nil => simp [dget]
  | cons p r ih =>
    rw [dget_cons, List.map_cons, List.mem_cons]
    by_cases h : p.1 = k
    · simp [h]
    · have h' : ¬ k = p.1 := fun z => h z.symm
      simp [h, h', ih]
end
theorem foldl_take {α β : Type} (f : β → α → β) (b : β) {l : List α} {i : Nat} {a : α} (h : l[i]? = some a) : (l.take (i + 1)).foldl f b = f ((l.take i).foldl f b) a := by
  rw [List.take_add_one, h, Option.toList_some, List.foldl_append]; rfl

theorem iabs_nn (x : Int) : 0 ≤ iabs x := by unfold iabs; split <;> omega
theorem getD_of {l : List Int} {x : Int} (h0 : 0 ≤ x) (h : x.toNat < l.length) : atI l x = some (l.getD x.toNat 0) := by
  obtain ⟨n, rfl⟩ : ∃ n : Nat, x = n := ⟨x.toNat, by omega⟩
  have e : ((n : Int)).toNat = n := by omega
  rw [e] at h ⊢
  exact atI_nat (by rw [List.getElem?_eq_getElem h, List.getD_eq_getElem?_getD, List.getElem?_eq_getElem h]; rfl)
/-! numbered -/
def nStep (tf : Int → Int) (s : List (Int × Int) × List Int × List Int) (one : Int) : List (Int × Int) × List Int × List Int :=
  (if (dget s.1 (iabs one)).isSome then s.1 else dput s.1 (iabs one) (s.1.length + 1),
   s.2.1 ++ [if decide (0 < one) = true then (dget (if (dget s.1 (iabs one)).isSome then s.1 else dput s.1 (iabs one) (s.1.length + 1)) (iabs one)).getD 0 else -(dget (if (dget s.1 (iabs one)).isSome then s.1 else dput s.1 (iabs one) (s.1.length + 1)) (iabs one)).getD 0],
   if (dget s.1 (iabs one)).isSome then s.2.2 else s.2.2 ++ [tf (iabs one)])
def nmb (tf : Int → Int) (row : List Int) : List (Int × Int) × List Int × List Int := row.foldl (nStep tf) ([], [], [])
theorem nmb_succ (tf : Int → Int) {row : List Int} {i : Nat} {a : Int} (h : row[i]? = some a) : nmb tf (row.take (i + 1)) = nStep tf (nmb tf (row.take i)) a := foldl_take _ _ h
theorem nmb_len (tf : Int → Int) (row : List Int) : (nmb tf row).1.length ≤ row.length ∧ (nmb tf row).2.1.length = row.length ∧ (nmb tf row).2.2.length ≤ row.length := by
  have : ∀ (l : List Int) (s : List (Int × Int) × List Int × List Int), (l.foldl (nStep tf) s).1.length ≤ s.1.length + l.length ∧ (l.foldl (nStep tf) s).2.1.length = s.2.1.length + l.length ∧ (l.foldl (nStep tf) s).2.2.length ≤ s.2.2.length + l.length := by
    intro l
    induction l with
    | nil => intro s; simp
    | cons x l ih =>
      intro s
      obtain ⟨h1, h2, h3⟩ := ih (nStep tf s x)
      have e1 : (nStep tf s x).1.length ≤ s.1.length + 1 := by
        unfold nStep
        simp only
        split
        · omega
        · exact dput_length _ _ _
      have e2 : (nStep tf s x).2.1.length = s.2.1.length + 1 := by simp [nStep]
      have e3 : (nStep tf s x).2.2.length ≤ s.2.2.length + 1 := by
        unfold nStep
        simp only
        split <;> simp
      rw [List.foldl_cons, List.length_cons]
      omega
  have := this row ([], [], [])
  simpa [nmb] using this

/-! faces -/
def beyondM (row : List Int) (tn pl : List (Int × Int)) (h : Int × Int) : Int × Int :=
  if (if h.2 = 1 then h.1 else h.1 - 1) < 0 ∨ (if h.2 = 1 then h.1 else h.1 - 1) = row.length then (h.1, -h.2)
  else if row.getD (if h.2 = 1 then h.1 else h.1 - 1).toNat 0 = 0 then (h.1 + h.2, h.2)
  else if (if row.getD (if h.2 = 1 then h.1 else h.1 - 1).toNat 0 < 0 then -((dget tn (iabs (row.getD (if h.2 = 1 then h.1 else h.1 - 1).toNat 0))).getD 0 * h.2) else (dget tn (iabs (row.getD (if h.2 = 1 then h.1 else h.1 - 1).toNat 0))).getD 0 * h.2) = 1
    then ((dget pl (-(row.getD (if h.2 = 1 then h.1 else h.1 - 1).toNat 0))).getD 0 + 1, 1)
    else ((dget pl (-(row.getD (if h.2 = 1 then h.1 else h.1 - 1).toNat 0))).getD 0, -1)
def placesM (row : List Int) : List (Int × Int) := (List.range row.length).foldl (fun acc i => dput acc (row.getD i 0) (i : Int)) []
def walkM (nx : Int × Int → Int × Int) (count : Int) : Nat → List ((Int × Int) × Int) → Int × Int → List ((Int × Int) × Int) × (Int × Int)
  | 0, fd, h => (fd, h)
  | n + 1, fd, h => if (dget fd h).isSome then (fd, h) else walkM nx count n (dput fd h count) (nx h)
def sideStep (nx : Int × Int → Int × Int) (L : Nat) (s : List ((Int × Int) × Int) × Int) (h : Int × Int) : List ((Int × Int) × Int) × Int :=
  if (dget s.1 h).isSome then s else ((walkM nx s.2 (2 * (L + 1)) s.1 h).1, s.2 + 1)
def sidesN (row : List Int) (tn : List (Int × Int)) : List ((Int × Int) × Int) × Int :=
  (List.range (row.length + 1)).foldl (fun s (g : Nat) => [(1 : Int), -1].foldl (fun s w => sideStep (beyondM row tn (placesM row)) row.length s ((g : Int), w)) s) ([], 0)
def sidesM (row : List Int) (tn : List (Int × Int)) : List ((Int × Int) × Int) := (sidesN row tn).1

/-- each pass has its other pass, and a turn -/
def WF (row : List Int) (tn : List (Int × Int)) : Prop := ∀ x ∈ row, x ≠ 0 → -x ∈ row ∧ ∃ t, dget tn (iabs x) = some t
theorem placesM_get (row : List Int) : ∀ x ∈ row, ∃ i : Nat, i < row.length ∧ dget (placesM row) x = some (i : Int) ∧ row[i]? = some x := by
  have key : ∀ n, n ≤ row.length → ∀ x, (∃ i, i < n ∧ row[i]? = some x) → ∃ i : Nat, i < n ∧ dget ((List.range n).foldl (fun acc i => dput acc (row.getD i 0) (i : Int)) []) x = some (i : Int) ∧ row[i]? = some x := by
    intro n
    induction n with
    | zero => rintro _ x ⟨i, h, _⟩; omega
    | succ n ih =>
      rintro hn x ⟨i, hi, hx⟩
      rw [List.range_succ, List.foldl_append]
      show ∃ j : Nat, j < n + 1 ∧ dget (dput _ (row.getD n 0) (n : Int)) x = some (j : Int) ∧ row[j]? = some x
      rw [dget_dput]
      by_cases e : x = row.getD n 0
      · refine ⟨n, by omega, if_pos e, ?_⟩
        rw [e, List.getD_eq_getElem?_getD, List.getElem?_eq_getElem (by omega : n < row.length)]; rfl
      · rw [if_neg e]
        have : i ≠ n := fun z => by
          subst z
          exact e (by rw [List.getD_eq_getElem?_getD, hx]; rfl)
        obtain ⟨j, h1, h2, h3⟩ := ih (by omega) x ⟨i, by omega, hx⟩
        exact ⟨j, by omega, h2, h3⟩
  intro x hx
  obtain ⟨i, h1, h2⟩ := List.mem_iff_getElem.mp hx
  exact key row.length (Nat.le_refl _) x ⟨i, h1, by rw [List.getElem?_eq_getElem h1, h2]⟩
/-- a side of an arc of L things -/
def isSide (L : Nat) (h : Int × Int) : Prop := 0 ≤ h.1 ∧ h.1 ≤ L ∧ (h.2 = 1 ∨ h.2 = -1)
theorem beyond_side {row : List Int} {tn : List (Int × Int)} (wf : WF row tn) {h : Int × Int} (hs : isSide row.length h) : isSide row.length (beyondM row tn (placesM row) h) := by
  obtain ⟨g, w⟩ := h
  obtain ⟨h1, h2, h3⟩ := hs
  simp only at h1 h2 h3
  unfold beyondM
  simp only
  generalize hat : (if w = 1 then g else g - 1) = at_
  have hat2 : at_ = g ∧ w = 1 ∨ at_ = g - 1 ∧ w = -1 := by
    rcases h3 with rfl | rfl
    · left; simpa using hat.symm
    · right; simpa using hat.symm
  by_cases c1 : at_ < 0 ∨ at_ = row.length
  · rw [if_pos c1]
    exact ⟨h1, h2, by rcases h3 with rfl | rfl <;> simp⟩
  · rw [if_neg c1]
    have hr : at_.toNat < row.length := by omega
    have hm : row.getD at_.toNat 0 ∈ row := by
      rw [List.getD_eq_getElem?_getD, List.getElem?_eq_getElem hr]
      exact List.getElem_mem hr
    by_cases c2 : row.getD at_.toNat 0 = 0
    · rw [if_pos c2]
      refine ⟨?_, ?_, h3⟩ <;> simp only <;> omega
    · rw [if_neg c2]
      obtain ⟨i, hi, hg, _⟩ := placesM_get row _ (wf _ hm c2).1
      rw [hg]
      have fin : ∀ b : Prop, ∀ _ : Decidable b, isSide row.length (if b then (((some (i : Int)).getD 0 + 1, 1) : Int × Int) else ((some (i : Int)).getD 0, -1)) := fun b _ => by
        split
        · exact ⟨by simp only [Option.getD_some]; omega, by simp only [Option.getD_some]; omega, .inl rfl⟩
        · exact ⟨by simp only [Option.getD_some]; omega, by simp only [Option.getD_some]; omega, .inr rfl⟩
      exact fin _ _
def allSides (L : Nat) : List (Int × Int) := (List.range (L + 1)).flatMap fun g : Nat => [((g : Int), 1), ((g : Int), -1)]
theorem mem_allSides {L : Nat} {h : Int × Int} (hs : isSide L h) : h ∈ allSides L := by
  obtain ⟨g, w⟩ := h
  obtain ⟨h1, h2, h3⟩ := hs
  simp only at h1 h2 h3
  unfold allSides
  rw [List.mem_flatMap]
  refine ⟨g.toNat, List.mem_range.mpr (by omega), ?_⟩
  have : ((g.toNat : Nat) : Int) = g := Int.toNat_of_nonneg h1
  rw [this]
  rcases h3 with rfl | rfl <;> simp
theorem allSides_len (L : Nat) : (allSides L).length = 2 * (L + 1) := by
  unfold allSides
  rw [List.length_flatMap]
  have : ∀ n : Nat, ((List.range n).map fun g : Nat => [((g : Int), (1 : Int)), ((g : Int), -1)].length).sum = 2 * n := by
    intro n
    induction n with
    | zero => rfl
    | succ n ih => rw [List.range_succ, List.map_append, List.sum_append, ih]; simp; omega
  exact this (L + 1)
theorem nodup_le {α : Type} [DecidableEq α] : ∀ {l m : List α}, l.Nodup → (∀ x ∈ l, x ∈ m) → l.length ≤ m.length
  | [], _, _, _ => Nat.zero_le _
  | x :: l, m, hn, hs => by
    have hx := hs x List.mem_cons_self
    have hnd := List.nodup_cons.mp hn
    have ih := nodup_le (l := l) (m := m.erase x) hnd.2 fun y hy => by
      have : y ≠ x := fun z => hnd.1 (z ▸ hy)
      exact (List.mem_erase_of_ne this).mpr (hs y (List.mem_cons_of_mem _ hy))
    rw [List.length_erase_of_mem hx] at ih
    have : 0 < m.length := List.length_pos_of_mem hx
    simp only [List.length_cons]
    omega
/-- the sides numbered so far are sides, each once -/
def FdOk (L : Nat) (fd : List ((Int × Int) × Int)) : Prop := (fd.map (·.1)).Nodup ∧ ∀ p ∈ fd, isSide L p.1
theorem FdOk.len {L : Nat} {fd : List ((Int × Int) × Int)} (h : FdOk L fd) : fd.length ≤ 2 * (L + 1) := by
  have := nodup_le h.1 (m := allSides L) fun x hx => by
    obtain ⟨p, hp, rfl⟩ := List.mem_map.mp hx
    exact mem_allSides (h.2 p hp)
  rw [List.length_map, allSides_len] at this
  exact this
theorem FdOk.put {L : Nat} {fd : List ((Int × Int) × Int)} (h : FdOk L fd) {x : Int × Int} (hx : isSide L x) (hn : dget fd x = none) (v : Int) : FdOk L (dput fd x v) ∧ (dput fd x v).length = fd.length + 1 := by
  rw [dput_new hn]
  refine ⟨⟨?_, fun p hp => ?_⟩, by simp⟩
  · rw [List.map_append, List.map_cons, List.map_nil, List.nodup_append]
    refine ⟨h.1, by simp, fun a ha b hb => ?_⟩
    rw [List.mem_singleton.mp hb]
    rintro rfl
    exact (dget_none_iff fd _).mp hn ha
  · rcases List.mem_append.mp hp with hp | hp
    · exact h.2 p hp
    · rw [List.mem_singleton.mp hp]; exact hx
theorem walkM_ok {L : Nat} {nx : Int × Int → Int × Int} {count : Int} (hnx : ∀ h, isSide L h → isSide L (nx h)) : ∀ (n : Nat) (fd : List ((Int × Int) × Int)) (h : Int × Int), FdOk L fd → isSide L h → FdOk L (walkM nx count n fd h).1
  | 0, fd, h, ok, _ => ok
  | n + 1, fd, h, ok, hs => by
    unfold walkM
    split
    · exact ok
    · rename_i e
      have e0 : dget fd h = none := by simpa using e
      exact walkM_ok hnx n _ _ (ok.put hs e0 count).1 (hnx h hs)
theorem sideStep_ok {L : Nat} {nx : Int × Int → Int × Int} (hnx : ∀ h, isSide L h → isSide L (nx h)) {s : List ((Int × Int) × Int) × Int} {h : Int × Int} (ok : FdOk L s.1) (hs : isSide L h) : FdOk L (sideStep nx L s h).1 := by
  unfold sideStep
  split
  · exact ok
  · exact walkM_ok hnx _ _ _ ok hs
end Ov

/-! D-layer: opaque data stored, slices of ints, tuples of ints joined, built-in types, try .. except. -/
namespace Ov
open PySem L2 PySem.Spec PyProof.Rows

section
variable {X : Cx} {W : WX} {c : Cc} {δ : List Sl} {rest : List Stmt} {a b e : Expr} {pos p p2 : Pos} {m m1 m2 : Mo} {d d1 d2 : D} {Φ : Po} {i : Nat} {ol oh : Option Int} {ns ms : List Int}
/-- what was taken out of a borrowed thing is borrowed -/
theorem dss_old (i : Nat) (d : D) (hi : δ[i]? = some (stSl .old d)) (h : DSs X W c (δ.set i (.bor d)) rest Φ) : DSs X W c δ rest Φ := by
  have key : ∀ {S σ}, Good c S σ δ → Good c S σ (δ.set i (.bor d)) := fun {S σ} g => by
    refine ⟨g.toGoodH, by rw [List.length_set]; exact g.len, fun j s hj => ?_⟩
    by_cases e : j = i
    · subst e
      have hl : j < δ.length := (List.getElem?_eq_some_iff.mp hi).1
      rw [List.getElem?_set_self hl] at hj
      cases hj
      have z : SlOk c S σ j (cond (isAt d) (.val d) (.bor d)) := g.sl j _ hi
      cases ha : isAt d with
      | true =>
        rw [ha] at z
        obtain ⟨v, h1, h2⟩ := z
        exact ⟨v, h1, Re.atom ha h2⟩
      | false =>
        rw [ha] at z
        exact z
    · rw [List.getElem?_set_ne (Ne.symm e)] at hj
      exact g.sl j s hj
  exact ⟨h.k, PSs.imp h.ps fun D σ H ⟨S, e, g, q⟩ => ⟨S, e, key g, q⟩⟩

/-! slices of ints -/
def cutI {α : Type} (ns : List α) (lo hi : Option Int) : List α := (ns.drop (HT.sIx ns.length 0 lo)).take (HT.sIx ns.length ns.length hi - HT.sIx ns.length 0 lo)
theorem cutI_from {α : Type} (ns : List α) (k : Nat) : cutI ns (some (k : Int)) none = ns.drop k := by
  unfold cutI
  rw [HT.sIx_nat, HT.sIx_none]
  by_cases h : k ≤ ns.length
  · rw [Nat.min_eq_left h]
    exact List.take_of_length_le (by rw [List.length_drop]; omega)
  · rw [Nat.min_eq_right (by omega), List.drop_of_length_le (Nat.le_refl _), List.drop_of_length_le (by omega)]
    simp
theorem cutI_to {α : Type} (ns : List α) (k : Nat) : cutI ns none (some (k : Int)) = ns.take k := by
  unfold cutI
  rw [HT.sIx_nat, HT.sIx_none, List.drop_zero, Nat.sub_zero]
  by_cases h : k ≤ ns.length
  · rw [Nat.min_eq_left h]
  · rw [Nat.min_eq_right (by omega), List.take_of_length_le (Nat.le_refl _), List.take_of_length_le (by omega)]
theorem cutI_nn {α : Type} (ns : List α) (k l : Nat) : cutI ns (some (k : Int)) (some (l : Int)) = (ns.drop k).take (l - k) := by
  unfold cutI
  rw [HT.sIx_nat, HT.sIx_nat]
  by_cases h : k ≤ ns.length
  · rw [Nat.min_eq_left h]
    by_cases h2 : l ≤ ns.length
    · rw [Nat.min_eq_left h2]
    · rw [Nat.min_eq_right (Nat.le_of_not_le h2), List.take_of_length_le (by rw [List.length_drop]; exact Nat.le_refl _), List.take_of_length_le (by rw [List.length_drop]; omega)]
  · rw [Nat.min_eq_right (Nat.le_of_not_le h)]
    simp [List.drop_of_length_le (Nat.le_of_lt (Nat.lt_of_not_le h))]
theorem cutI_from_neg {α : Type} (ns : List α) (k : Nat) : cutI ns none (some (-((k : Int) + 1))) = ns.take (ns.length - (k + 1)) := by
  unfold cutI
  have : HT.sIx ns.length ns.length (some (-((k : Int) + 1))) = ns.length - (k + 1) := by
    show (if -((k : Int) + 1) < 0 then (-((k : Int) + 1) + (ns.length : Int)).toNat else _) = _
    rw [if_pos (by omega)]
    omega
  rw [this, HT.sIx_none, List.drop_zero, Nat.sub_zero]
theorem cutD_cutI (ns : List Int) : cutD (ns.map D.int) ol oh = (cutI ns ol oh).map D.int := cutD_ints ns
theorem cutD_cutM {α : Type} (f : α → D) (ns : List α) : cutD (ns.map f) ol oh = (cutI ns ol oh).map f := by
  unfold cutD cutI
  rw [List.length_map, List.map_take, List.map_drop]
theorem sl_tbI : Sli X c m1 (.tup (ns.map D.int)) ol oh .bor (.tup ((cutI ns ol oh).map D.int)) := cutD_cutI (ol := ol) (oh := oh) ns ▸ sl_tb
theorem sl_tI (h1 : m1 = .val) : Sli X c m1 (.tup (ns.map D.int)) ol oh .val (.tup ((cutI ns ol oh).map D.int)) := cutD_cutI (ol := ol) (oh := oh) ns ▸ sl_t h1
theorem sl_lI : Sli X c m1 (.lst (ns.map D.int)) ol oh .fr (.lst ((cutI ns ol oh).map D.int)) := cutD_cutI (ol := ol) (oh := oh) ns ▸ sl_l (.inr (ints_at ns))

/-! tuples of ints joined: read only -/
theorem o_catTb (hK : X.K = c.K) (hl : ns.length + ms.length ≤ 100000) : Op2 X c (binaryOp .Add) m1 (.tup (ns.map D.int)) m2 (.tup (ms.map D.int)) .bor (.tup ((ns ++ ms).map D.int)) :=
  ⟨_, op_catF, fun δ S σ x y g r1 r2 Q q => by
    obtain ⟨p, e1, hp⟩ := g.toGoodH.tupI r1
    obtain ⟨p', e2, hp'⟩ := g.toGoodH.tupI r2
    refine ⟨p, p', _, _, e1, e2, hp.sq, hp'.sq, by rw [List.length_map, List.length_map]; exact sz hl, fun z => ?_, fun _ z => ?_, fun _ _ a ob ha hd => ?_⟩
    · have : ns = [] := by simpa using z
      subst this
      exact q _ S (Le.refl c S) g (.tup hp' ReAll.ints)
    · have : ms = [] := by simpa using z
      subst this
      rw [List.append_nil] at q
      exact q _ S (Le.refl c S) g (.tup hp ReAll.ints)
    · refine q (.ref a) (S.add a (.frz ob (.tup (ns.map V.int ++ ms.map V.int)))) (Le.add g.exb ha) (g.add ha) ?_
      show Re c.K c.C (upd S.h a _) _ _
      exact .tup ⟨ob, upd_same, hd⟩ (by rw [← List.map_append]; exact ReAll.ints)⟩
theorem o_catTv (hK : X.K = c.K) (hl : ns.length + ms.length ≤ 100000) : Op2 X c (binaryOp .Add) .val (.tup (ns.map D.int)) .val (.tup (ms.map D.int)) .val (.tup ((ns ++ ms).map D.int)) := by
  rw [List.map_append]
  exact o_catT hK rfl rfl (by rw [List.length_map, List.length_map]; exact hl)
theorem o_catI (hl : ns.length + ms.length ≤ 100000) : Op2 X c (binaryOp .Add) m1 (.lst (ns.map D.int)) m2 (.lst (ms.map D.int)) .fr (.lst ((ns ++ ms).map D.int)) := by
  rw [List.map_append]
  exact o_cat (.inr (ints_at ns)) (.inr (ints_at ms)) (by rw [List.length_map, List.length_map]; exact hl)

/-! built-in types -/
def isIntT : D → Bool
  | .int _ => true | .bl _ => true | _ => false
def isBoolT : D → Bool
  | .bl _ => true | _ => false
def isTupT : D → Bool
  | .tup _ => true | _ => false
def isLstT : D → Bool
  | .lst _ => true | _ => false
theorem kit_int (h : tyOk d = true) : kitB (tyOf d) "int" = some (isIntT d) := by cases d <;> first | rfl | cases h
theorem kit_bool (h : tyOk d = true) : kitB (tyOf d) "bool" = some (isBoolT d) := by cases d <;> first | rfl | cases h
theorem kit_tup (h : tyOk d = true) : kitB (tyOf d) "tuple" = some (isTupT d) := by cases d <;> first | rfl | cases h
theorem kit_lst (h : tyOk d = true) : kitB (tyOf d) "list" = some (isLstT d) := by cases d <;> first | rfl | cases h
theorem fl_ty {k : Nat} (h : fl k d = true) : tyOk d = true := by
  cases d <;> first | rfl | (cases k <;> cases h)
theorem fl_tup {k : Nat} {ds : List D} (h : fl (k + 1) (.tup ds) = true) : ∀ d ∈ ds, fl k d = true := fun d hd => List.all_eq_true.mp h d hd
theorem fl_ints (k : Nat) (ns : List Int) : (ns.map D.int).all (fl k) = true := by
  rw [List.all_map]
  exact List.all_eq_true.mpr fun n _ => by cases k <;> rfl

/-! raise X('..'), by a class of the text -/
structure Xc (K : PySem.W.Frag) (mg : Str → Option Value) (x : Str) (a : Addr) : Prop where
  q : PySem.W.excIn K a [.type "ValueError", .type "Exception", .type "BaseException", .type "object"] "ValueError.__new__" = true
  g : mg x = some (.ref a)
  k : PySem.W.keepIn K (.ref a) = true
  s : PySem.W.subIn K (.ref a) (.type "BaseException") = some true
  t : PySem.W.typeIn K (.ref a) = some (.type "type")

/-! try .. except X: -/
theorem ds_try {x : Str} {cv : Value} {body suite : List Stmt} {b₀ : Stmt} {np pos' : Pos} (hK : X.K = c.K) (hs : X.stack = X.env :: X.outer) (hf : X.env.frame = some X.env.locals) (hc : Names X x cv) (tk : Takes X W)
    (hb : ∀ (W' : WX) (pn : List (Addr × Obj)) (xe : Value → Shared → Prop), Takes (X.tr pn xe) W' → PassesOwn (model X.prog X.w) X.A X.env xe → DSs (X.tr pn xe) W' c δ body { Φ with xc := fun a => PySem.W.exmOne c.K (.ref a) cv = some true ∨ (PySem.W.exmOne c.K (.ref a) cv = some false ∧ Φ.xc a) })
    (hsu : ∀ (n : Nat) (a : Addr) (oe : Obj) (pn : List (Addr × Obj)), DSs (X.suite a ((a, oe) :: pn)) W c (List.replicate n .any) (b₀ :: suite) Φ) :
    DS X W c δ (.Try body [.ExceptHandler (some (.Name x np)) none (b₀ :: suite) pos'] [] [] pos) Φ := by
  refine ⟨hK, PS.imp (ps_try_only (tb := fun W' => sE c W' δ { Φ with xc := fun a => PySem.W.exmOne c.K (.ref a) cv = some true ∨ (PySem.W.exmOne c.K (.ref a) cv = some false ∧ Φ.xc a) })
    (ts := fun a cls d D σ H => ∃ n, sE c W (List.replicate n .any) Φ D σ H) hs hf hc tk (fun W' pn xe t ps => (hb W' pn xe t ps).ps) (fun a oe cls d pn _ _ => ?_)) fun D σ H ⟨S, e, g, q1, q2, q3, q4, q5⟩ => ?_⟩
  · refine PSs.imp (PSs.any (ι := Nat) (P := fun _ => True) (t := fun n => sE c W (List.replicate n .any) Φ) fun n _ => (hsu n a oe pn).ps) fun D σ H ⟨n, h⟩ => ⟨n, trivial, h⟩
  · refine ⟨S, e, g, q1, q2, q3, q4, fun a S' σ' l g' h => ?_⟩
    have gn : Good c S' σ' (List.replicate σ'.length .any) := ⟨g', by rw [List.length_replicate], fun i s hi => by
      have : s = .any := by
        have := List.mem_of_getElem? hi
        exact (List.mem_replicate.mp this).2
      rw [this]; trivial⟩
    rcases h with h | ⟨h, hx⟩
    · refine ⟨true, by rw [hK]; exact h, fun _ a0 _ => ⟨σ'.length, S', rfl, gn, ?_, ?_, ?_, ?_, ?_⟩, fun z => by cases z⟩
      · exact fun S2 σ2 δ2 l2 => q1 S2 σ2 δ2 (l.trans l2)
      · exact fun v m d S2 l2 => q2 v m d S2 (l.trans l2)
      · exact fun S2 σ2 δ2 l2 => q3 S2 σ2 δ2 (l.trans l2)
      · exact fun S2 σ2 δ2 l2 => q4 S2 σ2 δ2 (l.trans l2)
      · exact fun b S2 σ2 l2 => q5 b S2 σ2 (l.trans l2)
    · exact ⟨false, by rw [hK]; exact h, fun z => (by cases z), fun _ => q5 a S' σ' l g' hx⟩
end
end Ov

/-! Mirrors: drawings. -/
namespace Ov
open L2
/-- are_passes from the numbers met on -/
def apRun (count : Int) : List Int → List D → Bool
  | _, [] => true
  | met, .int i :: ds => if i = 0 ∨ i ∈ met ∨ count < iabs i then false else if -i ∉ met ∧ iabs i ≠ 1 + ((dd (met.map iabs)).length : Int) then false else apRun count (met ++ [i]) ds
  | _, _ :: _ => false
def atRun : List D → Bool
  | [] => true
  | .int i :: ds => if iabs i ≠ 1 then false else atRun ds
  | _ :: _ => false
theorem List.filter_true {α : Type} (l : List α) : l.filter (fun _ => true) = l := List.filter_eq_self.mpr fun _ _ => rfl
def intsD : List D → List Int
  | [] => []
  | .int i :: ds => i :: intsD ds
  | _ :: ds => intsD ds
theorem intsD_map (ns : List Int) : intsD (ns.map D.int) = ns := by
  induction ns with
  | nil => rfl
  | cons n ns ih => show n :: intsD (ns.map D.int) = _; rw [ih]
theorem apRun_ints {n : Int} : ∀ (ds : List D) (met : List Int), apRun n met ds = true → ds = (intsD ds).map .int
  | [], _, _ => rfl
  | d :: ds, met, h => by
    cases d with
    | int i =>
      unfold apRun at h
      split at h
      · cases h
      · split at h
        · cases h
        · show _ = D.int i :: (intsD ds).map .int
          rw [← apRun_ints ds _ h]
    | _ => cases h
theorem atRun_ints : ∀ (ds : List D), atRun ds = true → ds = (intsD ds).map .int
  | [], _ => rfl
  | d :: ds, h => by
    cases d with
    | int i =>
      unfold atRun at h
      split at h
      · cases h
      · show _ = D.int i :: (intsD ds).map .int
        rw [← atRun_ints ds h]
    | _ => cases h
theorem apRun_spec {n : Int} : ∀ (ns met : List Int), apRun n met (ns.map .int) = true → (∀ x ∈ ns, x ≠ 0 ∧ iabs x ≤ n ∧ x ∉ met) ∧ ns.Nodup
  | [], _, _ => ⟨fun _ h => (by cases h), List.nodup_nil⟩
  | i :: ns, met, h => by
    rw [List.map_cons] at h
    unfold apRun at h
    split at h
    · cases h
    · rename_i h1
      split at h
      · cases h
      · obtain ⟨a, b⟩ := apRun_spec ns _ h
        have h1 : ¬ i = 0 ∧ ¬ i ∈ met ∧ ¬ n < iabs i := by simpa using h1
        refine ⟨fun x hx => ?_, List.nodup_cons.mpr ⟨fun hi => ?_, b⟩⟩
        · rcases List.mem_cons.mp hx with rfl | hx
          · exact ⟨h1.1, by omega, h1.2.1⟩
          · obtain ⟨a1, a2, a3⟩ := a x hx
            exact ⟨a1, a2, fun z => a3 (List.mem_append_left _ z)⟩
        · exact (a i hi).2.2 (List.mem_append_right _ List.mem_cons_self)
theorem iabs_neg (x : Int) : iabs (-x) = iabs x := by unfold iabs; split <;> split <;> omega
/-- all numbers up to n, either way -/
def pmAll (n : Nat) : List Int := (List.range n).flatMap fun i : Nat => [(i : Int) + 1, -((i : Int) + 1)]
theorem pmAll_len (n : Nat) : (pmAll n).length = 2 * n := by
  unfold pmAll
  rw [List.length_flatMap]
  induction n with
  | zero => rfl
  | succ n ih => rw [List.range_succ, List.map_append, List.sum_append, ih]; simp; omega
theorem mem_pmAll {n : Nat} {x : Int} : x ∈ pmAll n ↔ x ≠ 0 ∧ iabs x ≤ n := by
  unfold pmAll
  rw [List.mem_flatMap]
  constructor
  · rintro ⟨i, hi, hx⟩
    have := List.mem_range.mp hi
    unfold iabs
    simp only [List.mem_cons, List.not_mem_nil, or_false] at hx
    rcases hx with rfl | rfl <;> split <;> omega
  · rintro ⟨h0, h1⟩
    unfold iabs at h1
    refine ⟨(iabs x).toNat - 1, List.mem_range.mpr ?_, ?_⟩
    · unfold iabs; split at h1 <;> split <;> omega
    · simp only [List.mem_cons, List.not_mem_nil, or_false]
      unfold iabs; split at h1 <;> split <;> omega
/-- a list without doubles, as long as a list that has all of it, has all of that -/
theorem nodup_all {α : Type} [DecidableEq α] : ∀ {l m : List α}, l.Nodup → (∀ x ∈ l, x ∈ m) → m.length ≤ l.length → ∀ x ∈ m, x ∈ l
  | l, m, hn, hs, hl => fun x hx => Decidable.byContradiction fun hc => by
    have := nodup_le (l := x :: l) (m := m) (List.nodup_cons.mpr ⟨hc, hn⟩) fun y hy => by
      rcases List.mem_cons.mp hy with rfl | hy
      · exact hx
      · exact hs y hy
    rw [List.length_cons] at this
    omega
/-- passes that are right have each other pass -/
theorem passes_pair {n : Nat} {ps : List Int} (h : apRun n [] (ps.map .int) = true) (hl : ps.length = 2 * n) : (∀ x, x ∈ ps ↔ x ≠ 0 ∧ iabs x ≤ n) ∧ ps.Nodup := by
  obtain ⟨a, b⟩ := apRun_spec ps [] h
  refine ⟨fun x => ⟨fun hx => ⟨(a x hx).1, (a x hx).2.1⟩, fun hx => ?_⟩, b⟩
  exact nodup_all b (m := pmAll n) (fun y hy => mem_pmAll.mpr ⟨(a y hy).1, (a y hy).2.1⟩) (by rw [pmAll_len]; omega) x (mem_pmAll.mpr hx)

/-! the arc that is left -/
def liftedM (ps : List Int) (b e : Nat) : List Int := ((ps.drop b).take (e - b)).map iabs
def rowM (ps : List Int) (b e : Nat) : List Int := ((ps.drop e ++ [0]) ++ ps.take b).filter fun x => !decide (iabs x ∈ liftedM ps b e)
def keptP (ts lf : List Int) (n : Nat) : List (Int × Int) := (List.range n).foldl (fun acc (i : Nat) => if ((i : Int) + 1) ∈ lf then acc else dput acc ((i : Int) + 1) (ts.getD i 0)) []
def keptM (ps ts : List Int) (b e : Nat) : List (Int × Int) := keptP ts (liftedM ps b e) ts.length
theorem keptP_succ (ts lf : List Int) (n : Nat) : keptP ts lf (n + 1) = if ((n : Int) + 1) ∈ lf then keptP ts lf n else dput (keptP ts lf n) ((n : Int) + 1) (ts.getD n 0) := by
  unfold keptP; rw [List.range_succ, List.foldl_append]; rfl
theorem keptP_len (ts lf : List Int) : ∀ n, (keptP ts lf n).length ≤ n
  | 0 => Nat.le_refl _
  | n + 1 => by
    rw [keptP_succ]
    have := keptP_len ts lf n
    split
    · omega
    · exact Nat.le_trans (dput_length _ _ _) (by omega)
theorem keptP_get (ts lf : List Int) : ∀ (n : Nat) (x : Int), dget (keptP ts lf n) x = if 1 ≤ x ∧ x ≤ n ∧ x ∉ lf then some (ts.getD (x.toNat - 1) 0) else none
  | 0, x => by rw [if_neg (by omega)]; rfl
  | n + 1, x => by
    rw [keptP_succ]
    have ih := keptP_get ts lf n x
    by_cases hn : ((n : Int) + 1) ∈ lf
    · rw [if_pos hn, ih]
      by_cases hx : x = (n : Int) + 1
      · subst hx
        rw [if_neg (by omega), if_neg (fun z => z.2.2 hn)]
      · have : (1 ≤ x ∧ x ≤ (n : Int) ∧ x ∉ lf) ↔ (1 ≤ x ∧ x ≤ ((n + 1 : Nat) : Int) ∧ x ∉ lf) := by
          constructor
          · rintro ⟨a, b, c⟩; exact ⟨a, by omega, c⟩
          · rintro ⟨a, b, c⟩; exact ⟨a, by omega, c⟩
        simp only [this]
    · rw [if_neg hn, dget_dput]
      by_cases hx : x = (n : Int) + 1
      · subst hx
        rw [if_pos rfl, if_pos ⟨by omega, by omega, hn⟩]
        congr 2
      · rw [if_neg hx, ih]
        have : (1 ≤ x ∧ x ≤ (n : Int) ∧ x ∉ lf) ↔ (1 ≤ x ∧ x ≤ ((n + 1 : Nat) : Int) ∧ x ∉ lf) := by
          constructor
          · rintro ⟨a, b, c⟩; exact ⟨a, by omega, c⟩
          · rintro ⟨a, b, c⟩; exact ⟨a, by omega, c⟩
        simp only [this]
theorem rowM_00 (ps : List Int) : rowM ps 0 0 = ps ++ [0] := by
  unfold rowM liftedM
  simp
theorem wf_00 {ps ts : List Int} (h : apRun ts.length [] (ps.map .int) = true) (hl : ps.length = 2 * ts.length) : WF (rowM ps 0 0) (keptM ps ts 0 0) := by
  obtain ⟨a, _⟩ := passes_pair h hl
  rw [rowM_00]
  intro x hx h0
  have hx : x ∈ ps := by
    rcases List.mem_append.mp hx with hx | hx
    · exact hx
    · exact absurd (List.mem_singleton.mp hx) h0
  have hb := (a x).mp hx
  refine ⟨List.mem_append_left _ ((a (-x)).mpr ⟨by omega, by rw [iabs_neg]; exact hb.2⟩), ?_⟩
  unfold keptM
  have hp : 1 ≤ iabs x := by unfold iabs; split <;> omega
  exact ⟨_, (keptP_get ts _ ts.length (iabs x)).trans (if_pos ⟨hp, hb.2, by simp [liftedM]⟩)⟩

/-! the sides that are numbered -/
theorem walkM_keep {nx : Int × Int → Int × Int} {cnt : Int} {x : Int × Int} {v : Int} : ∀ (n : Nat) (fd : List ((Int × Int) × Int)) (h : Int × Int), dget fd x = some v → dget (walkM nx cnt n fd h).1 x = some v
  | 0, _, _, e => e
  | n + 1, fd, h, e => by
    unfold walkM
    split
    · exact e
    · rename_i e0
      refine walkM_keep n _ _ ?_
      rw [dget_dput]
      by_cases hx : x = h
      · subst hx
        rw [e] at e0
        exact absurd rfl e0
      · rw [if_neg hx]; exact e
theorem sideStep_keep {nx : Int × Int → Int × Int} {L : Nat} {s : List ((Int × Int) × Int) × Int} {h x : Int × Int} {v : Int} (e : dget s.1 x = some v) : dget (sideStep nx L s h).1 x = some v := by
  unfold sideStep
  split
  · exact e
  · exact walkM_keep _ _ _ e
theorem sideStep_has {nx : Int × Int → Int × Int} {L : Nat} {s : List ((Int × Int) × Int) × Int} {h : Int × Int} : ∃ v, dget (sideStep nx L s h).1 h = some v := by
  unfold sideStep
  split
  · rename_i e
    exact Option.isSome_iff_exists.mp e
  · rename_i e
    rw [show 2 * (L + 1) = (2 * L + 1) + 1 by omega]
    show ∃ v, dget (walkM nx s.2 ((2 * L + 1) + 1) s.1 h).1 h = some v
    unfold walkM
    rw [if_neg e]
    exact ⟨_, walkM_keep _ _ _ (dget_same _ _ _)⟩
def sidesQ (row : List Int) (tn : List (Int × Int)) (n : Nat) : List ((Int × Int) × Int) × Int := (List.range n).foldl (fun s (g : Nat) => [(1 : Int), -1].foldl (fun s w => sideStep (beyondM row tn (placesM row)) row.length s ((g : Int), w)) s) ([], 0)
theorem sidesQ_succ (row : List Int) (tn : List (Int × Int)) (n : Nat) : sidesQ row tn (n + 1) = sideStep (beyondM row tn (placesM row)) row.length (sideStep (beyondM row tn (placesM row)) row.length (sidesQ row tn n) ((n : Int), 1)) ((n : Int), -1) := by
  unfold sidesQ; rw [List.range_succ, List.foldl_append]; rfl
theorem sidesQ_has (row : List Int) (tn : List (Int × Int)) : ∀ (n : Nat) (h : Int × Int), 0 ≤ h.1 → h.1 < n → (h.2 = 1 ∨ h.2 = -1) → ∃ v, dget (sidesQ row tn n).1 h = some v
  | 0, h, a, b, _ => by omega
  | n + 1, (g, w), a, b, c => by
    simp only at a b c
    rw [sidesQ_succ]
    by_cases hg : g = n
    · subst hg
      rcases c with rfl | rfl
      · obtain ⟨v, hv⟩ := sideStep_has (nx := beyondM row tn (placesM row)) (L := row.length) (s := sidesQ row tn n) (h := ((n : Int), 1))
        exact ⟨v, sideStep_keep hv⟩
      · exact sideStep_has
    · obtain ⟨v, hv⟩ := sidesQ_has row tn n (g, w) a (by simp only; omega) c
      exact ⟨v, sideStep_keep (sideStep_keep hv)⟩
theorem sides_has (row : List Int) (tn : List (Int × Int)) {h : Int × Int} (hs : isSide row.length h) : ∃ v, dget (sidesM row tn) h = some v :=
  sidesQ_has row tn (row.length + 1) h hs.1 (by have := hs.2.1; omega) hs.2.2
theorem sides_ne (row : List Int) (tn : List (Int × Int)) : sidesM row tn ≠ [] := fun z => by
  obtain ⟨v, hv⟩ := sides_has row tn (h := (0, 1)) ⟨Int.le_refl _, by simp only; omega, .inl rfl⟩
  rw [z] at hv
  cases hv

/-! is_drawing -/
def drwOk (ps ts : List Int) : Bool := decide (imax ((sidesM (rowM ps 0 0) (keptM ps ts 0 0)).map (·.2)) = ts.length)
def isDrw : D → Bool
  | .tup [.tup ps, .tup ts] => decide (ts.length ≤ 40) && (decide (ps.length = 2 * ts.length) && (apRun ts.length [] ps && (atRun ts && drwOk (intsD ps) (intsD ts))))
  | _ => false
def drD (ps ts : List Int) : D := .tup [.tup (ps.map .int), .tup (ts.map .int)]
theorem isDrw_dr {d : D} (h : isDrw d = true) : ∃ ps ts : List Int, d = drD ps ts ∧ ts.length ≤ 40 ∧ ps.length = 2 * ts.length ∧ apRun ts.length [] (ps.map .int) = true ∧ (∀ t ∈ ts, t = 1 ∨ t = -1) ∧ drwOk ps ts = true := by
  unfold isDrw at h
  split at h
  · rename_i ps ts
    simp only [Bool.and_eq_true, decide_eq_true_eq] at h
    obtain ⟨h1, h2, h3, h4, h5⟩ := h
    have e1 := apRun_ints _ _ h3
    have e2 := atRun_ints _ h4
    have l1 : (intsD ps).length = ps.length := by
      have := congrArg List.length e1; rw [List.length_map] at this; exact this.symm
    have l2 : (intsD ts).length = ts.length := by
      have := congrArg List.length e2; rw [List.length_map] at this; exact this.symm
    refine ⟨intsD ps, intsD ts, by unfold drD; rw [← e1, ← e2], by omega, by omega, by rw [← e1, l2]; exact h3, ?_, h5⟩
    rw [e2] at h4
    generalize intsD ts = xs at h4
    induction xs with
    | nil => intro t ht; cases ht
    | cons x xs ih =>
      intro t ht
      rw [List.map_cons] at h4
      unfold atRun at h4
      split at h4
      · cases h4
      · rename_i hx
        rcases List.mem_cons.mp ht with rfl | ht
        · have : iabs t = 1 := by simpa using hx
          unfold iabs at this
          split at this <;> omega
        · exact ih h4 t ht
  · cases h
end Ov

/-! D-layer: calls that may raise, with the outcome given beside. -/
namespace Ov
open PySem L2 PySem.Spec PyProof.Rows
section
variable {X : Cx} {W : WX} {c : Cc} {δ : List Sl} {e o : Expr} {es : List Expr} {pos p apos : Pos} {l : List (Mo × D)} {x mn : Str} {α : Type} {ms : List Mo} {enc : α → List D} {pre : α → Prop} {out : α → Out} {f : Addr} {fd : FuncData} {ps : List Str} {k : Nat} {oc : Out}
theorem dx_callE (tk : Takes X W) (F : FnOk X.prog X.w X.K X.mg X.base (L2.CX X.prog X.w) k f fd ps (spT c.K c.C ms enc pre out)) (hr : Room k X.A) (hg : Gl X x) (hm : X.mg x = some (.ref f)) (hk : PySem.W.keepIn X.K (.ref f) = true) (hb : Binds X.K fd ps [])
    (ha : DA X c δ (e :: es) l) (a : α) (hl : l.map (·.2) = enc a) (hmo : msOk l ms = true) (hp : pre a) (ho : out a = oc) (hrm : ∀ m d, oc = .ret m d → okRet m = true) (hf : nofr l = true := by rfl) (hdb : (x == ("__debug__" : Str)) = false := by decide)
    (he : starEach (e :: es) X.env = (false, eval e X.env) :: starEach es X.env := by rfl) (hpl : (backTo pos (starEach es X.env)).any (·.1) = false := by rfl) : DX X W c δ (.Call (.Name x p) (e :: es) [] pos) oc := by
  subst ho
  exact dx_call tk F hr hg hm hk hb ha a hl hmo hp hrm hf hdb he hpl

/-! the script -/
variable {a b : Expr} {m m1 m2 : Mo} {ns : List Int} {i : Int} {S : G} {v : V} {d : D}
theorem GoodH.scr (g : GoodH c S) (r : ReM c S m v (.scr ns)) : ∃ p, v = .ref p ∧ SqL c.K S.h p (ns.map V.int) := by
  have z := Good.now g r
  cases z with
  | scr h => exact ⟨_, rfl, h⟩
theorem c_lenS (hK : X.K = c.K) : Cal X c (.builtin "len") [(m1, .scr ns)] .val (.int ns.length) :=
  ⟨_, call_len_seq, fun δ S σ vs g rr Q q => by
    obtain ⟨v, rfl, r⟩ := rr.one
    obtain ⟨p, rfl, h⟩ := g.toGoodH.scr r
    refine ⟨p, _, rfl, .inl (hK ▸ h), ?_⟩
    have : (((ns.map V.int).length : Nat) : Int) = ns.length := by rw [List.length_map]
    rw [this]
    exact q _ S (Le.refl c S) g (.int _)⟩
theorem atI_mapV {n : Int} (h : atI ns i = some n) : atI (ns.map V.int) i = some (.int n) := by
  unfold atI at h ⊢
  rw [List.length_map]
  cases e : ixN ns.length i with
  | none => rw [e] at h; cases h
  | some j =>
    rw [e] at h
    have h : ns[j]? = some n := h
    show (ns.map V.int)[j]? = some (V.int n)
    rw [List.getElem?_map, h]; rfl
theorem ix_s {n : Int} (hK : X.K = c.K) (h : atI ns i = some n) : Ix X c m1 (.scr ns) m2 (.int i) .val (.int n) :=
  ⟨_, ix_list, fun δ S σ x y g r1 r2 Q q => by
    obtain ⟨p, e, hp⟩ := g.toGoodH.scr r1
    exact ⟨p, _, i, .int n, e, r2.intI, hK ▸ hp, atI_mapV h, q _ S (Le.refl c S) g (.int _)⟩⟩
theorem sb_S {n : Int} (hK : X.K = c.K) (h : atI ns i = some n) (hp : PlainIx b) : Sb X c b m1 (.scr ns) m2 (.int i) .val (.int n) := sb_ix (ix_s hK h) hp

/-! xs.index(x) -/
theorem eqV_ints (i j : Int) : eqV (.int i) (.int j) = decide (i = j) := by simp [eqV]; rfl
theorem idx_before {ns : List Int} {x : Int} : ∀ m, m < ns.idxOf x → ∀ z, ns[m]? = some z → z ≠ x := fun m hm z hz e => by
  subst e
  have hl : m < ns.length := (List.getElem?_eq_some_iff.mp hz).1
  have h := List.not_of_lt_findIdx (p := fun y => y == z) (xs := ns) (i := m) hm
  have e2 : ns[m] = z := (List.getElem?_eq_some_iff.mp hz).2
  simp [e2] at h
theorem de_index {apos : Pos} {x : Expr} {i : Int} (ha : DE X c m1 δ a (.lst (ns.map D.int))) (hx : DE X c m2 δ x (.int i)) (hi : i ∈ ns) (hst : starEach [x] X.env = (false, eval x X.env) :: starEach [] X.env := by rfl)
    (hbase : attributeBase a "index" X.env (eval a X.env) = eval a X.env := by rfl)
    (hfew : ((backTo p (starEach [x] X.env)).all (fun x => !x.1) && (backToKw p (keywordEach [] X.env)).all (fun x => x.1.isSome)
      && decide (([x] : List Expr).length + ([] : List Keyword).length + (if ([] : List Keyword).isEmpty then 0 else 1) < 30)) = true := by rfl)
    (hline : (apos.endLine == p.line) = true := by rfl) (hplain : (backTo p (starEach [] X.env)).any (·.1) = false := by rfl) :
    DE X c .val δ (.Call (.Attribute a "index" apos) [x] [] p) (.int ((ns.idxOf i : Nat) : Int)) :=
  DE.mkE ha.k (pe_bm PySem.F.plainAttrs_list PySem.F.slot_list_index PySem.F.type_list_index mt_index ha.nf.pe (pa_cons hx.nf.pe pa_nil hst) hbase hfew hline hst hplain) fun S σ g Q q => ⟨S, rfl, g, fun v S1 l1 g1 r1 => by
    obtain ⟨p, rfl, hp⟩ := g1.toGoodH.lstI r1
    refine ⟨.inl ⟨rfl, _, SqL.of hp⟩, S1, rfl, g1, fun u S2 l2 g2 r2 => ?_⟩
    have hlt := List.idxOf_lt_length_of_mem hi
    have hg : ns[ns.idxOf i]? = some i := by rw [List.getElem?_eq_getElem hlt, List.getElem_idxOf hlt]
    refine ⟨p, ns.map V.int, .int i, ns.idxOf i, .int i, rfl, by rw [r2.intI], SqL.of (l2.h _ _ hp), rfl, flat_ints ns, by rw [List.getElem?_map, hg]; rfl, by rw [eqV_ints]; simp, fun m z hm hz => ?_, q _ S2 (l1.trans l2) g2 (.int _)⟩
    rw [List.getElem?_map] at hz
    cases e : ns[m]? with
    | none => rw [e] at hz; cases hz
    | some y =>
      rw [e] at hz
      cases hz
      rw [eqV_ints]
      exact decide_eq_false (idx_before m hm y e)⟩
/-- [1, -1][..] -/
theorem atI_pm (k : Bool) : atI ([.int 1, .int (-1)] : List D) (if k = true then 1 else 0) = some (.int (if k = true then -1 else 1)) := by cases k <;> rfl
theorem atI_pm2 (n : Int) : atI ([.int 1, .int (-1)] : List D) (n % 2) = some (.int (if n % 2 = 1 then -1 else 1)) := by
  have h : n % 2 = 0 ∨ n % 2 = 1 := by omega
  rcases h with h | h <;> rw [h] <;> rfl
/-! list(range(..)) -/
def rgI (a b : Int) : List Int := (List.range (b - a).toNat).map fun i : Nat => a + (i : Int)
theorem rgV_rgI (a b : Int) : rgV a b = (rgI a b).map V.int := by unfold rgV rgI; rw [List.map_map]; rfl
theorem rgI_nat (n : Nat) : rgI 0 (n : Int) = (List.range n).map fun i : Nat => (i : Int) := by
  unfold rgI
  rw [show ((n : Int) - 0).toNat = n by omega]
  exact List.map_congr_left fun i _ => Int.zero_add _
theorem de_listR1 {n : Int} {p2 p3 : Pos} (ha : DE X c m δ a (.int n)) (hn : 0 ≤ n ∧ n ≤ 100000) (hg : Gl X "list") (hm : X.mg "list" = none) (hg2 : Gl X "range") (hm2 : X.mg "range" = none) (hc : X.calm = true := by rfl)
    (na : starEach [a] X.env = (false, eval a X.env) :: starEach [] X.env := by rfl) (nb : starEach [Expr.Call (.Name "range" p2) [a] [] p3] X.env = (false, eval (Expr.Call (.Name "range" p2) [a] [] p3) X.env) :: starEach [] X.env := by rfl) :
    DE X c .fr δ (.Call (.Name "list" p) [.Call (.Name "range" p2) [a] [] p3] [] pos) (.lst ((rgI 0 n).map D.int)) :=
  DE.mkE ha.k (pe_listRg hc hg hm (prg_1 hg2 hm2 ha.nf.pe na) nb) fun S σ g Q q => ⟨S, rfl, g, fun v S1 l1 g1 r1 => ⟨n, r1.intI, RgOk.of_le (Int.le_refl 0) (by omega) (by omega) hn.1, fun a0 ha0 => by
    rw [rgV_rgI]
    exact q (.ref a0) (S1.addO a0 (.lst _)) (l1.trans (Le.addO ha0)) (g1.addO ha0) (.lst (g1.owNew ha0) upd_same ReAll.ints)⟩⟩
theorem de_listR2 {n n2 : Int} {p2 p3 : Pos} (ha : DE X c m δ a (.int n)) (hb : DE X c m2 δ b (.int n2)) (hn : 0 ≤ n ∧ n ≤ 100000 ∧ 0 ≤ n2 ∧ n2 ≤ 100000) (hg : Gl X "list") (hm : X.mg "list" = none) (hg2 : Gl X "range") (hm2 : X.mg "range" = none) (hc : X.calm = true := by rfl)
    (na : starEach [a, b] X.env = (false, eval a X.env) :: starEach [b] X.env := by rfl) (na2 : starEach [b] X.env = (false, eval b X.env) :: starEach [] X.env := by rfl) (nb : starEach [Expr.Call (.Name "range" p2) [a, b] [] p3] X.env = (false, eval (Expr.Call (.Name "range" p2) [a, b] [] p3) X.env) :: starEach [] X.env := by rfl)
    (hp : (backTo p3 (starEach [b] X.env)).any (·.1) = false := by rfl) :
    DE X c .fr δ (.Call (.Name "list" p) [.Call (.Name "range" p2) [a, b] [] p3] [] pos) (.lst ((rgI n n2).map D.int)) :=
  DE.mkE ha.k (pe_listRg hc hg hm (prg_2 hg2 hm2 ha.nf.pe hb.nf.pe na na2 hp) nb) fun S σ g Q q => ⟨S, rfl, g, fun v S1 l1 g1 r1 => ⟨S1, rfl, g1, fun w S2 l2 g2 r2 => ⟨n, n2, (ReM.le l2 r1).intI, r2.intI, RgOk.of_le hn.1 (by omega) (by omega) hn.2.2.1, fun a0 ha0 => by
    rw [rgV_rgI]
    exact q (.ref a0) (S2.addO a0 (.lst _)) ((l1.trans l2).trans (Le.addO ha0)) (g2.addO ha0) (.lst (g2.owNew ha0) upd_same ReAll.ints)⟩⟩⟩
end
end Ov

/-! Mirrors: the laws' helpers. -/
namespace Ov
open L2
def strm (cell : Int) : Nat → Int
  | 0 => cell % 2147483647 + 48271
  | k + 1 => (strm cell k * strm cell k + 48271 * strm cell k + (k : Int)) % 2147483647
theorem strm_bd (cell : Int) : ∀ k, 0 ≤ strm cell k ∧ strm cell k < 2147531918
  | 0 => by
    show 0 ≤ cell % 2147483647 + 48271 ∧ cell % 2147483647 + 48271 < 2147531918
    omega
  | k + 1 => by
    show 0 ≤ (_ : Int) % 2147483647 ∧ (_ : Int) % 2147483647 < 2147531918
    omega
def streamM (cell : Int) (many : Nat) : List Int := ((List.range (many + 1)).map fun i => strm cell (i + 1)).drop 1
theorem streamM_len (cell : Int) (many : Nat) : (streamM cell many).length = many := by simp [streamM]
theorem streamM_nn {cell : Int} {many : Nat} : ∀ x ∈ streamM cell many, 0 ≤ x ∧ x < 2147531918 := fun x hx => by
  obtain ⟨i, _, rfl⟩ := List.mem_map.mp (List.mem_of_mem_drop hx)
  exact strm_bd cell (i + 1)

/-! numbered anew, the law's way -/
theorem dd_append (l : List Int) (x : Int) : dd (l ++ [x]) = if x ∈ dd l then dd l else dd l ++ [x] := by
  unfold dd; rw [List.foldl_append]; rfl
theorem dd_snoc_induct {P : List Int → Prop} (h0 : P []) (hs : ∀ l x, P l → P (l ++ [x])) : ∀ l, P l := fun l => by
  have : ∀ n (l : List Int), l.length = n → P l := by
    intro n
    induction n with
    | zero => intro l hl; rw [List.length_eq_zero_iff.mp hl]; exact h0
    | succ n ih =>
      intro l hl
      have hne : l ≠ [] := by rintro rfl; cases hl
      rw [← List.dropLast_concat_getLast hne]
      exact hs _ _ (ih _ (by rw [List.length_dropLast]; omega))
  exact this _ l rfl
theorem mem_dd (l : List Int) : ∀ x, x ∈ dd l ↔ x ∈ l := by
  refine dd_snoc_induct (P := fun l => ∀ x, x ∈ dd l ↔ x ∈ l) (fun x => Iff.rfl) (fun l y ih x => ?_) l
  rw [dd_append]
  by_cases h : y ∈ dd l
  · rw [if_pos h, ih x, List.mem_append, List.mem_singleton]
    constructor
    · exact .inl
    · rintro (h1 | rfl)
      · exact h1
      · exact (ih _).mp h
  · rw [if_neg h, List.mem_append, List.mem_append, ih x]
theorem nodup_dd (l : List Int) : (dd l).Nodup := by
  refine dd_snoc_induct (P := fun l => (dd l).Nodup) List.nodup_nil (fun l y ih => ?_) l
  rw [dd_append]
  by_cases h : y ∈ dd l
  · rw [if_pos h]; exact ih
  · rw [if_neg h, List.nodup_append]
    refine ⟨ih, by simp, fun a ha b hb => ?_⟩
    rw [List.mem_singleton.mp hb]
    rintro rfl
    exact h ha
theorem dd_len (l : List Int) : (dd l).length ≤ l.length := by
  refine dd_snoc_induct (P := fun l => (dd l).length ≤ l.length) (Nat.le_refl _) (fun l y ih => ?_) l
  rw [dd_append]
  split
  · simp; omega
  · simp; omega
def ordM (row : List Int) : List Int := dd (row.map iabs)
theorem mem_ordM {row : List Int} {x : Int} (h : x ∈ row) : iabs x ∈ ordM row := (mem_dd _ _).mpr (List.mem_map_of_mem h)
theorem ordM_mem {row : List Int} {y : Int} (h : y ∈ ordM row) : ∃ x ∈ row, iabs x = y := by
  obtain ⟨x, hx, e⟩ := List.mem_map.mp ((mem_dd _ _).mp h)
  exact ⟨x, hx, e⟩
theorem ordM_succ {row : List Int} {i : Nat} {x : Int} (h : row[i]? = some x) : ordM (row.take (i + 1)) = if iabs x ∈ ordM (row.take i) then ordM (row.take i) else ordM (row.take i) ++ [iabs x] := by
  unfold ordM
  rw [List.take_add_one, h, Option.toList_some, List.map_append, List.map_singleton, dd_append]
theorem ordM_len (row : List Int) : (ordM row).length ≤ row.length := by
  have := dd_len (row.map iabs)
  rw [List.length_map] at this
  exact this
def lnP (row : List Int) : List Int := row.map fun x => (((ordM row).idxOf (iabs x) : Nat) + 1 : Int) * (if decide (x < 0) = true then -1 else 1)
def lnT (tf : Int → Int) (row : List Int) : List Int := (ordM row).map tf

/-! braids: a word is a list of places and signs -/
abbrev Wd := List (Nat × Int)
def swapM (at_ : List Int) (i : Nat) : List Int := at_.take i ++ [at_.getD (i + 1) 0, at_.getD i 0] ++ at_.drop (i + 2)
def iota (n : Nat) : List Int := (List.range n).map fun i : Nat => (i : Int)
def permM (st : Nat) (w : Wd) : List Int := w.foldl (fun a x => swapM a x.1) (iota st)
def headStep (at_ hs : List Int) (p : Nat) : List Int := hs.map fun h => if decide (h = hs.getD (at_.getD p 0).toNat 0) = true then hs.getD p 0 else h
def cyclesM (st : Nat) (w : Wd) : List Int := (List.range st).foldl (headStep (permM st w)) (iota st)
def WdOk (st : Nat) (w : Wd) : Prop := ∀ x ∈ w, x.1 + 1 < st ∧ (x.2 = 1 ∨ x.2 = -1)
/-- a list of as many numbers below as it is long -/
def BelowOk (st : Nat) (l : List Int) : Prop := l.length = st ∧ ∀ x ∈ l, 0 ≤ x ∧ x < st
theorem iota_ok (n : Nat) : BelowOk n (iota n) := ⟨by simp [iota], fun x hx => by
  obtain ⟨i, hi, rfl⟩ := List.mem_map.mp hx
  have := List.mem_range.mp hi
  omega⟩
theorem getD_mem {l : List Int} {i : Nat} (h : i < l.length) : l.getD i 0 ∈ l := by
  rw [List.getD_eq_getElem?_getD, List.getElem?_eq_getElem h]
  exact List.getElem_mem h
theorem swapM_ok {st i : Nat} {l : List Int} (h : BelowOk st l) (hi : i + 1 < st) : BelowOk st (swapM l i) := by
  obtain ⟨h1, h2⟩ := h
  unfold swapM
  refine ⟨by simp; omega, fun x hx => ?_⟩
  simp only [List.mem_append, List.mem_cons, List.not_mem_nil, or_false] at hx
  rcases hx with (hx | rfl | rfl) | hx
  · exact h2 x (List.mem_of_mem_take hx)
  · exact h2 _ (getD_mem (by omega))
  · exact h2 _ (getD_mem (by omega))
  · exact h2 x (List.mem_of_mem_drop hx)
theorem permM_take {st : Nat} {w : Wd} {j : Nat} {x : Nat × Int} (h : w[j]? = some x) : permM st (w.take (j + 1)) = swapM (permM st (w.take j)) x.1 := foldl_take _ _ h
theorem permM_ok {st : Nat} : ∀ {w : Wd}, WdOk st w → BelowOk st (permM st w) := fun {w} h => by
  have : ∀ (w : Wd) (l : List Int), WdOk st w → BelowOk st l → BelowOk st (w.foldl (fun a x => swapM a x.1) l) := by
    intro w
    induction w with
    | nil => intro l _ h; exact h
    | cons x w ih => intro l hw hl; exact ih _ (fun y hy => hw y (List.mem_cons_of_mem _ hy)) (swapM_ok hl (hw x List.mem_cons_self).1)
  exact this w _ h (iota_ok st)
theorem headStep_ok {st : Nat} {a hs : List Int} {p : Nat} (h : BelowOk st hs) (hp : p < st) : BelowOk st (headStep a hs p) := by
  obtain ⟨h1, h2⟩ := h
  refine ⟨by simp [headStep, h1], fun x hx => ?_⟩
  obtain ⟨y, hy, rfl⟩ := List.mem_map.mp hx
  split
  · exact h2 _ (getD_mem (by omega))
  · exact h2 y hy
theorem cyclesP_ok {st : Nat} {w : Wd} : ∀ n, n ≤ st → BelowOk st ((List.range n).foldl (headStep (permM st w)) (iota st))
  | 0, _ => iota_ok st
  | n + 1, h => by
    rw [List.range_succ, List.foldl_append]
    exact headStep_ok (cyclesP_ok n (by omega)) (by omega)
theorem cyclesM_ok (st : Nat) (w : Wd) : BelowOk st (cyclesM st w) := cyclesP_ok st (Nat.le_refl _)

def sgn2 (n : Int) : Int := if n % 2 = 1 then -1 else 1
theorem sgn2_or (n : Int) : sgn2 n = 1 ∨ sgn2 n = -1 := by unfold sgn2; split <;> simp
def nStr (xs : List Int) : Nat := (1 + xs.getD 0 0 % 4).toNat
def word0 (xs : List Int) (st n : Nat) : Wd := (List.range n).map fun k => ((xs.getD (2 + k) 0 % (if (st : Int) - 1 > 1 then (st : Int) - 1 else 1)).toNat, sgn2 (xs.getD (2 + k) 0 / 7))
def cntM (xs : List Int) (most : Nat) : Nat := (xs.getD 1 0 % ((most : Int) + 1) * (if decide (1 < (nStr xs : Int)) = true then 1 else 0)).toNat
def closeStep (xs : List Int) (st : Nat) (w : Wd) (k : Nat) : Wd := if (cyclesM st w).getD k 0 = (cyclesM st w).getD (k + 1) 0 then w else w ++ [(k, sgn2 (xs.getD 1 0 / 16 / ((k : Int) + 1)))]
def closeP (xs : List Int) (st : Nat) (w : Wd) (n : Nat) : Wd := (List.range n).foldl (closeStep xs st) w
def braidW (xs : List Int) (most : Nat) : Wd := closeP xs (nStr xs) (word0 xs (nStr xs) (cntM xs most)) (nStr xs - 1)
def braidM (x : Int) (most : Nat) : Nat × Wd := (nStr (streamM x (2 + most)), braidW (streamM x (2 + most)) most)
theorem closeP_succ (xs : List Int) (st : Nat) (w : Wd) (n : Nat) : closeP xs st w (n + 1) = closeStep xs st (closeP xs st w n) n := by
  unfold closeP; rw [List.range_succ, List.foldl_append]; rfl
theorem nStr_bd (xs : List Int) : 1 ≤ nStr xs ∧ nStr xs ≤ 4 := by unfold nStr; omega
theorem word0_ok {xs : List Int} {st n : Nat} (h : n = 0 ∨ 1 < st) : WdOk st (word0 xs st n) := fun x hx => by
  obtain ⟨k, hk, rfl⟩ := List.mem_map.mp hx
  have hk := List.mem_range.mp hk
  have hst : 1 < st := by omega
  refine ⟨?_, sgn2_or _⟩
  show (_ % _ : Int).toNat + 1 < st
  generalize xs.getD (2 + k) 0 = z
  split
  · have h1 := Int.emod_nonneg z (show (st : Int) - 1 ≠ 0 by omega)
    have h2 := Int.emod_lt_of_pos z (show 0 < (st : Int) - 1 by omega)
    omega
  · omega
theorem closeP_ok {xs : List Int} {st : Nat} {w : Wd} (h : WdOk st w) : ∀ n, n ≤ st - 1 → WdOk st (closeP xs st w n) ∧ (closeP xs st w n).length ≤ w.length + n
  | 0, _ => ⟨h, Nat.le_refl _⟩
  | n + 1, hn => by
    obtain ⟨a, b⟩ := closeP_ok (xs := xs) h n (by omega)
    rw [closeP_succ]
    unfold closeStep
    split
    · exact ⟨a, by omega⟩
    · refine ⟨fun x hx => ?_, by simp; omega⟩
      rcases List.mem_append.mp hx with hx | hx
      · exact a x hx
      · rw [List.mem_singleton.mp hx]
        exact ⟨by simp only; omega, sgn2_or _⟩
theorem cntM_bd (xs : List Int) (most : Nat) : cntM xs most ≤ most ∧ (cntM xs most = 0 ∨ 1 < nStr xs) := by
  unfold cntM
  have h1 := Int.emod_nonneg (xs.getD 1 0) (show (most : Int) + 1 ≠ 0 by omega)
  have h2 := Int.emod_lt_of_pos (xs.getD 1 0) (show 0 < (most : Int) + 1 by omega)
  by_cases h : (1 : Int) < (nStr xs : Int)
  · rw [decide_eq_true h, if_pos rfl, Int.mul_one]
    exact ⟨by omega, .inr (by omega)⟩
  · rw [decide_eq_false h, if_neg (by decide), Int.mul_zero]
    exact ⟨by simp, .inl rfl⟩
theorem braidW_ok (xs : List Int) (most : Nat) : WdOk (nStr xs) (braidW xs most) ∧ (braidW xs most).length ≤ most + 3 := by
  have hb := nStr_bd xs
  obtain ⟨c1, c2⟩ := cntM_bd xs most
  obtain ⟨a, b⟩ := closeP_ok (xs := xs) (word0_ok (xs := xs) (n := cntM xs most) c2) (nStr xs - 1) (Nat.le_refl _)
  refine ⟨a, Nat.le_trans b ?_⟩
  have : (word0 xs (nStr xs) (cntM xs most)).length = cntM xs most := by simp [word0]
  omega

/-! the row of a braid -/
def drawStep (w : Wd) (s : List Int × Nat) (l : Nat) : List Int × Nat :=
  if s.2 = (w.getD l (0, 0)).1 then (s.1 ++ [((l : Int) + 1) * -(w.getD l (0, 0)).2], (w.getD l (0, 0)).1 + 1)
  else if s.2 = (w.getD l (0, 0)).1 + 1 then (s.1 ++ [((l : Int) + 1) * (w.getD l (0, 0)).2], (w.getD l (0, 0)).1)
  else s
def drawTurn (w : Wd) (s : List Int × Nat) : List Int × Nat := (List.range w.length).foldl (drawStep w) s
def drawP (w : Wd) (n : Nat) : List Int × Nat := (List.range n).foldl (fun s _ => drawTurn w s) ([], 0)
def drawRow (st : Nat) (w : Wd) : List Int := (drawP w st).1
def startM (x : Int) (row : List Int) : Nat := (x % 1009 % (if ((row.length : Nat) : Int) > 1 then ((row.length : Nat) : Int) else 1)).toNat
def rotM (row : List Int) (k : Nat) : List Int := row.drop k ++ row.take k
def signsM (w : Wd) : List Int := 0 :: w.map (·.2)
/-- the drawing of a number -/
def drawnPs (x : Int) (most : Nat) : List Int := lnP (rotM (drawRow (braidM x most).1 (braidM x most).2) (startM x (drawRow (braidM x most).1 (braidM x most).2)))
def drawnTs (x : Int) (most : Nat) : List Int := lnT (fun i => (signsM (braidM x most).2).getD i.toNat 0) (rotM (drawRow (braidM x most).1 (braidM x most).2) (startM x (drawRow (braidM x most).1 (braidM x most).2)))
/-- what is in the row so far: few, each a level -/
def RowOk (w : Wd) (n : Nat) (s : List Int × Nat) : Prop := s.1.length ≤ n ∧ ∀ x ∈ s.1, 1 ≤ iabs x ∧ iabs x ≤ w.length
theorem iabs_mul {l : Nat} {s : Int} (h : s = 1 ∨ s = -1) : iabs (((l : Int) + 1) * s) = (l : Int) + 1 ∧ iabs (((l : Int) + 1) * -s) = (l : Int) + 1 := by
  rcases h with rfl | rfl
  · constructor <;> unfold iabs <;> split <;> omega
  · constructor <;> unfold iabs <;> split <;> omega
theorem drawStep_ok {st : Nat} {w : Wd} (hw : WdOk st w) {n : Nat} {s : List Int × Nat} {l : Nat} (hl : l < w.length) (h : RowOk w n s) : RowOk w (n + 1) (drawStep w s l) := by
  obtain ⟨h1, h2⟩ := h
  have hm : w.getD l (0, 0) ∈ w := by
    rw [List.getD_eq_getElem?_getD, List.getElem?_eq_getElem hl]
    exact List.getElem_mem hl
  obtain ⟨i1, i2⟩ := iabs_mul (l := l) (hw _ hm).2
  unfold drawStep
  split
  · refine ⟨by simp; omega, fun x hx => ?_⟩
    rcases List.mem_append.mp hx with hx | hx
    · exact h2 x hx
    · rw [List.mem_singleton.mp hx, i2]; omega
  · split
    · refine ⟨by simp; omega, fun x hx => ?_⟩
      rcases List.mem_append.mp hx with hx | hx
      · exact h2 x hx
      · rw [List.mem_singleton.mp hx, i1]; omega
    · exact ⟨by omega, h2⟩
theorem drawTurnP_ok {st : Nat} {w : Wd} (hw : WdOk st w) {n : Nat} {s : List Int × Nat} (h : RowOk w n s) : ∀ j, j ≤ w.length → RowOk w (n + j) ((List.range j).foldl (drawStep w) s)
  | 0, _ => h
  | j + 1, hj => by
    rw [List.range_succ, List.foldl_append]
    exact drawStep_ok hw (by omega) (drawTurnP_ok hw h j (by omega))
theorem drawP_ok {st : Nat} {w : Wd} (hw : WdOk st w) : ∀ n, RowOk w (n * w.length) (drawP w n)
  | 0 => ⟨by simp [drawP], by simp [drawP]⟩
  | n + 1 => by
    unfold drawP
    rw [List.range_succ, List.foldl_append, Nat.succ_mul]
    exact drawTurnP_ok hw (drawP_ok hw n) w.length (Nat.le_refl _)
end Ov

/-! D-layer: try .. except, where it is known when it is caught. -/
namespace Ov
open PySem L2 PySem.Spec PyProof.Rows
section
variable {X : Cx} {W : WX} {c : Cc} {δ : List Sl} {Φ : Po} {pos : Pos}
theorem ds_tryP {x : Str} {cv : Value} {body suite : List Stmt} {b₀ : Stmt} {np pos' : Pos} (px : Prop) (hK : X.K = c.K) (hs : X.stack = X.env :: X.outer) (hf : X.env.frame = some X.env.locals) (hc : Names X x cv) (tk : Takes X W)
    (hb : ∀ (W' : WX) (pn : List (Addr × Obj)) (xe : Value → Shared → Prop), Takes (X.tr pn xe) W' → PassesOwn (model X.prog X.w) X.A X.env xe → DSs (X.tr pn xe) W' c δ body { Φ with xc := fun a => (PySem.W.exmOne c.K (.ref a) cv = some true ∧ px) ∨ (PySem.W.exmOne c.K (.ref a) cv = some false ∧ Φ.xc a) })
    (hsu : px → ∀ (n : Nat) (a : Addr) (oe : Obj) (pn : List (Addr × Obj)), DSs (X.suite a ((a, oe) :: pn)) W c (List.replicate n .any) (b₀ :: suite) Φ) :
    DS X W c δ (.Try body [.ExceptHandler (some (.Name x np)) none (b₀ :: suite) pos'] [] [] pos) Φ := by
  refine ⟨hK, PS.imp (ps_try_only (tb := fun W' => sE c W' δ { Φ with xc := fun a => (PySem.W.exmOne c.K (.ref a) cv = some true ∧ px) ∨ (PySem.W.exmOne c.K (.ref a) cv = some false ∧ Φ.xc a) })
    (ts := fun a cls d D σ H => ∃ n, px ∧ sE c W (List.replicate n .any) Φ D σ H) hs hf hc tk (fun W' pn xe t ps => (hb W' pn xe t ps).ps) (fun a oe cls d pn _ _ => ?_)) fun D σ H ⟨S, e, g, q1, q2, q3, q4, q5⟩ => ?_⟩
  · exact PSs.any (ι := Nat) (P := fun _ => px) (t := fun n => sE c W (List.replicate n .any) Φ) fun n h => (hsu h n a oe pn).ps
  · refine ⟨S, e, g, q1, q2, q3, q4, fun a S' σ' l g' h => ?_⟩
    have gn : Good c S' σ' (List.replicate σ'.length .any) := ⟨g', by rw [List.length_replicate], fun i s hi => by
      have : s = .any := by
        have := List.mem_of_getElem? hi
        exact (List.mem_replicate.mp this).2
      rw [this]; trivial⟩
    rcases h with ⟨h, hp⟩ | ⟨h, hx⟩
    · refine ⟨true, by rw [hK]; exact h, fun _ a0 _ => ⟨σ'.length, hp, S', rfl, gn, ?_, ?_, ?_, ?_, ?_⟩, fun z => by cases z⟩
      · exact fun S2 σ2 δ2 l2 => q1 S2 σ2 δ2 (l.trans l2)
      · exact fun v m d S2 l2 => q2 v m d S2 (l.trans l2)
      · exact fun S2 σ2 δ2 l2 => q3 S2 σ2 δ2 (l.trans l2)
      · exact fun S2 σ2 δ2 l2 => q4 S2 σ2 δ2 (l.trans l2)
      · exact fun b S2 σ2 l2 => q5 b S2 σ2 (l.trans l2)
    · exact ⟨false, by rw [hK]; exact h, fun z => (by cases z), fun _ => q5 a S' σ' l g' hx⟩
end
end Ov

/-! Plain: numbered anew, both ways alike; data equal themselves. -/
namespace Ov
open L2 PySem
theorem deq_refl {d : D} {k : Nat} (h : fl k d = true) : deq d d = true := SeqAt.eqv_refl _ (fl_lay k d h).1
theorem ordM_snoc (l : List Int) (x : Int) : ordM (l ++ [x]) = if iabs x ∈ ordM l then ordM l else ordM l ++ [iabs x] := by
  unfold ordM
  rw [List.map_append, List.map_singleton, dd_append]
theorem idxOf_app {l m : List Int} {y : Int} (h : y ∈ l) : (l ++ m).idxOf y = l.idxOf y := by rw [List.idxOf_append]; simp [h]
theorem idxOf_new {l : List Int} {y : Int} (h : y ∉ l) : (l ++ [y]).idxOf y = l.length := by rw [List.idxOf_append]; simp [h]
structure NmOk (tf : Int → Int) (l : List Int) : Prop where
  len : (nmb tf l).1.length = (ordM l).length
  get : ∀ y, dget (nmb tf l).1 y = if y ∈ ordM l then some (((ordM l).idxOf y : Nat) + 1 : Int) else none
  ps : (nmb tf l).2.1 = lnP l
  ts : (nmb tf l).2.2 = lnT tf l
theorem nmb_snoc (tf : Int → Int) (l : List Int) (x : Int) : nmb tf (l ++ [x]) = nStep tf (nmb tf l) x := by unfold nmb; rw [List.foldl_append]; rfl
theorem nm_sign {x n : Int} (h : x ≠ 0) : (if decide (0 < x) = true then n else -n) = n * (if decide (x < 0) = true then -1 else 1) := by
  by_cases h1 : 0 < x
  · rw [decide_eq_true h1, decide_eq_false (show ¬ x < 0 by omega)]; simp
  · rw [decide_eq_false h1, decide_eq_true (show x < 0 by omega)]; simp
theorem nmOk (tf : Int → Int) (l : List Int) : (∀ x ∈ l, x ≠ 0) → NmOk tf l := by
  refine dd_snoc_induct (P := fun l => (∀ x ∈ l, x ≠ 0) → NmOk tf l) (fun _ => ⟨rfl, fun y => rfl, rfl, rfl⟩) (fun l x ih hz => ?_) l
  obtain ⟨h1, h2, h3, h4⟩ := ih fun y hy => hz y (List.mem_append_left _ hy)
  have hx := hz x (List.mem_append_right _ List.mem_cons_self)
  have hP : ∀ o : List Int, (∀ y ∈ l, ((o.idxOf (iabs y) : Nat) : Int) = (ordM l).idxOf (iabs y)) → ordM (l ++ [x]) = o → lnP (l ++ [x]) = lnP l ++ [(((o).idxOf (iabs x) : Nat) + 1 : Int) * (if decide (x < 0) = true then -1 else 1)] := fun o ho e => by
    unfold lnP
    rw [e, List.map_append, List.map_singleton]
    congr 1
    refine List.map_congr_left fun y hy => ?_
    rw [ho y hy]
  by_cases hm : iabs x ∈ ordM l
  · have eo : ordM (l ++ [x]) = ordM l := by rw [ordM_snoc, if_pos hm]
    have hs : (dget (nmb tf l).1 (iabs x)).isSome = true := by rw [h2, if_pos hm]; rfl
    have e1 : (nStep tf (nmb tf l) x).1 = (nmb tf l).1 := by show (if _ then _ else _) = _; rw [if_pos hs]
    have e3 : (nStep tf (nmb tf l) x).2.2 = (nmb tf l).2.2 := by show (if _ then _ else _) = _; rw [if_pos hs]
    have e2 : (nStep tf (nmb tf l) x).2.1 = (nmb tf l).2.1 ++ [if decide (0 < x) = true then (dget (nStep tf (nmb tf l) x).1 (iabs x)).getD 0 else -(dget (nStep tf (nmb tf l) x).1 (iabs x)).getD 0] := rfl
    refine ⟨by rw [nmb_snoc, e1, eo, h1], fun y => by rw [nmb_snoc, e1, eo, h2], ?_, ?_⟩
    · rw [nmb_snoc, e2, e1, h2, if_pos hm, h3, hP (ordM l) (fun _ _ => rfl) eo, nm_sign hx]; rfl
    · rw [nmb_snoc, e3, h4]; unfold lnT; rw [eo]
  · have eo : ordM (l ++ [x]) = ordM l ++ [iabs x] := by rw [ordM_snoc, if_neg hm]
    have hs0 : dget (nmb tf l).1 (iabs x) = none := by rw [h2, if_neg hm]
    have hs : ¬ (dget (nmb tf l).1 (iabs x)).isSome = true := by rw [hs0]; decide
    have e1 : (nStep tf (nmb tf l) x).1 = dput (nmb tf l).1 (iabs x) ((nmb tf l).1.length + 1) := by show (if _ then _ else _) = _; rw [if_neg hs]
    have e3 : (nStep tf (nmb tf l) x).2.2 = (nmb tf l).2.2 ++ [tf (iabs x)] := by show (if _ then _ else _) = _; rw [if_neg hs]
    have e2 : (nStep tf (nmb tf l) x).2.1 = (nmb tf l).2.1 ++ [if decide (0 < x) = true then (dget (nStep tf (nmb tf l) x).1 (iabs x)).getD 0 else -(dget (nStep tf (nmb tf l) x).1 (iabs x)).getD 0] := rfl
    refine ⟨?_, fun y => ?_, ?_, ?_⟩
    · rw [nmb_snoc, e1, eo, dput_new hs0, List.length_append, List.length_append, h1]; rfl
    · rw [nmb_snoc, e1, eo, dget_dput, h2, h1]
      by_cases hy : y = iabs x
      · subst hy
        rw [if_pos rfl, if_pos (List.mem_append_right _ List.mem_cons_self), idxOf_new hm]
      · rw [if_neg hy]
        by_cases hy2 : y ∈ ordM l
        · rw [if_pos hy2, if_pos (List.mem_append_left _ hy2), idxOf_app hy2]
        · rw [if_neg hy2, if_neg]
          intro z
          rcases List.mem_append.mp z with z | z
          · exact hy2 z
          · exact hy (List.mem_singleton.mp z)
    · rw [nmb_snoc, e2, e1, dget_same, h3, hP (ordM l ++ [iabs x]) (fun y hy => by rw [idxOf_app (mem_ordM hy)]) eo, nm_sign hx, idxOf_new hm, h1]; rfl
    · rw [nmb_snoc, e3, h4]
      unfold lnT
      rw [eo, List.map_append]; rfl
theorem negs_negs (l : List Int) : (l.map fun i => -i).map (fun i => -i) = l := by
  rw [List.map_map]
  have : ((fun i : Int => -i) ∘ fun i => -i) = id := by funext i; simp
  rw [this, List.map_id]
end Ov

/-! Plain: the numbering of sides. -/
namespace Ov
abbrev Side := Int × Int
/-- joined by steps of nx, either way, among sides -/
inductive Con (nx : Side → Side) (L : Nat) : Side → Side → Prop
  | rfl (x) : Con nx L x x
  | fwd {x y} : isSide L x → Con nx L (nx x) y → Con nx L x y
  | bwd {x y} : isSide L x → Con nx L x y → Con nx L (nx x) y
section
variable {nx : Side → Side} {L : Nat}
theorem Con.trans {x y z : Side} (a : Con nx L x y) (b : Con nx L y z) : Con nx L x z := by
  induction a with
  | rfl _ => exact b
  | fwd h _ ih => exact .fwd h (ih b)
  | bwd h _ ih => exact .bwd h (ih b)
theorem Con.symm {x y : Side} (a : Con nx L x y) : Con nx L y x := by
  induction a with
  | rfl x => exact .rfl x
  | fwd h _ ih => exact ih.trans (.bwd h (.rfl _))
  | bwd h _ ih => exact ih.trans (.fwd h (.rfl _))
theorem Con.step {x : Side} (h : isSide L x) : Con nx L x (nx x) := .fwd h (.rfl _)
/-- what the steps keep is one for all that are joined -/
theorem Con.keep {β : Type} {f : Side → β} (hf : ∀ x, isSide L x → f (nx x) = f x) {x y : Side} (a : Con nx L x y) : f x = f y := by
  induction a with
  | rfl _ => rfl
  | fwd h _ ih => rw [← ih, hf _ h]
  | bwd h _ ih => rw [hf _ h, ih]

structure Perm (nx : Side → Side) (L : Nat) : Prop where
  side : ∀ x, isSide L x → isSide L (nx x)
  inj : ∀ x y, isSide L x → isSide L y → nx x = nx y → x = y
/-- a finite set that nx takes into itself: each of it comes from one of it -/
theorem onto_of {α : Type} [DecidableEq α] {f : α → α} {l : List α} (hn : l.Nodup) (hs : ∀ x ∈ l, f x ∈ l) (hi : ∀ x ∈ l, ∀ y ∈ l, f x = f y → x = y) {y : α} (hy : y ∈ l) : ∃ x ∈ l, f x = y := by
  have hm : (l.map f).Nodup := by
    clear hs hy
    induction l with
    | nil => exact List.nodup_nil
    | cons a l ih =>
      rw [List.map_cons, List.nodup_cons]
      have hna := List.nodup_cons.mp hn
      refine ⟨fun hm => ?_, ih hna.2 fun x hx y hy => hi x (List.mem_cons_of_mem _ hx) y (List.mem_cons_of_mem _ hy)⟩
      obtain ⟨b, hb, e⟩ := List.mem_map.mp hm
      have := hi b (List.mem_cons_of_mem _ hb) a List.mem_cons_self e
      subst this
      exact hna.1 hb
  have := nodup_all hm (m := l) (fun x hx => by obtain ⟨z, hz, rfl⟩ := List.mem_map.mp hx; exact hs z hz) (by rw [List.length_map]; exact Nat.le_refl _) y hy
  obtain ⟨x, hx, e⟩ := List.mem_map.mp this
  exact ⟨x, hx, e⟩

theorem FdOk.side {fd : List (Side × Int)} (h : FdOk L fd) {x : Side} {v : Int} (hx : dget fd x = some v) : isSide L x := h.2 _ (dget_mem hx)
theorem dget_of_mem {fd : List (Side × Int)} (hn : (fd.map (·.1)).Nodup) {p : Side × Int} (hp : p ∈ fd) : dget fd p.1 = some p.2 := by
  induction fd with
  | nil => cases hp
  | cons q r ih =>
    rw [List.map_cons, List.nodup_cons] at hn
    rw [dget_cons]
    rcases List.mem_cons.mp hp with rfl | hp
    · rw [if_pos rfl]
    · rw [if_neg, ih hn.2 hp]
      intro e
      exact hn.1 (e ▸ List.mem_map_of_mem hp)
/-- those of one number that nx keeps: each comes from one of them -/
theorem lab_onto (P : Perm nx L) {fd : List (Side × Int)} (ok : FdOk L fd) {v : Int} (hc : ∀ x, dget fd x = some v → dget fd (nx x) = some v) {y : Side} (hy : dget fd y = some v) : ∃ x, dget fd x = some v ∧ nx x = y := by
  have key : ∀ x, x ∈ ((fd.filter fun p => decide (p.2 = v)).map (·.1)) ↔ dget fd x = some v := by
    intro x
    constructor
    · intro hx
      obtain ⟨p, hp, rfl⟩ := List.mem_map.mp hx
      obtain ⟨h1, h2⟩ := List.mem_filter.mp hp
      rw [dget_of_mem ok.1 h1]
      congr 1
      simpa using h2
    · intro hx
      have := dget_mem hx
      exact List.mem_map.mpr ⟨_, List.mem_filter.mpr ⟨this, by simp⟩, rfl⟩
  have hn : ((fd.filter fun p => decide (p.2 = v)).map (·.1)).Nodup := by
    refine List.Nodup.sublist ?_ ok.1
    exact List.Sublist.map _ List.filter_sublist
  obtain ⟨x, hx, e⟩ := onto_of (f := nx) hn (fun x hx => (key _).mpr (hc x ((key x).mp hx))) (fun x hx y hy e => P.inj x y (ok.side ((key x).mp hx)) (ok.side ((key y).mp hy)) e) ((key y).mpr hy)
  exact ⟨x, (key x).mp hx, e⟩

/-- what is numbered so far -/
structure Num (nx : Side → Side) (L : Nat) (fd : List (Side × Int)) (cnt : Int) : Prop where
  ok : FdOk L fd
  inv : ∀ x v, dget fd x = some v → dget fd (nx x) = some v
  bd : ∀ x v, dget fd x = some v → 0 ≤ v ∧ v < cnt
  all : ∀ v, 0 ≤ v → v < cnt → ∃ x, dget fd x = some v
  con : ∀ x y v, dget fd x = some v → dget fd y = some v → Con nx L x y
/-- the walk of one number -/
theorem walk_num (P : Perm nx L) {c : Int} {h0 : Side} : ∀ (n : Nat) (fd : List (Side × Int)) (h : Side), FdOk L fd → isSide L h → Con nx L h h0 → 2 * (L + 1) < n + fd.length + 1 →
    (∀ x v, dget fd x = some v → v ≠ c → dget fd (nx x) = some v) → (∀ x, dget fd x = some c → dget fd (nx x) = some c ∨ nx x = h) → (∀ x, dget fd x = some c → Con nx L x h0) → ((∃ x, dget fd x = some c ∧ nx x = h) ∨ dget fd h = none) →
    FdOk L (walkM nx c n fd h).1 ∧ (∀ x v, dget (walkM nx c n fd h).1 x = some v → dget (walkM nx c n fd h).1 (nx x) = some v) ∧ (∀ x, dget (walkM nx c n fd h).1 x = some c → Con nx L x h0) ∧ (∀ x v, v ≠ c → dget (walkM nx c n fd h).1 x = some v → dget fd x = some v) := by
  intro n
  induction n with
  | zero =>
    intro fd h ok hs _ hl h1 h2 h3 h4
    have := ok.len
    -- all sides are numbered: h is
    have hh : ∃ v, dget fd h = some v := by
      have hk := nodup_all ok.1 (m := allSides L) (fun x hx => by
        obtain ⟨p, hp, rfl⟩ := List.mem_map.mp hx
        exact mem_allSides (ok.2 p hp)) (by rw [allSides_len, List.length_map]; omega) h (mem_allSides hs)
      cases e : dget fd h with
      | some v => exact ⟨v, rfl⟩
      | none => exact absurd hk ((dget_none_iff fd h).mp e)
    obtain ⟨v, hv⟩ := hh
    show FdOk L fd ∧ (∀ x v, dget fd x = some v → dget fd (nx x) = some v) ∧ _ ∧ _
    refine ⟨ok, ?_, h3, fun x v _ hx => hx⟩
    have hvc : v = c := Decidable.byContradiction fun hne => by
      rcases h4 with ⟨x, hx1, hx2⟩ | h4
      · obtain ⟨z, hz1, hz2⟩ := lab_onto P ok (fun x hx => h1 x v hx hne) hv
        have := P.inj x z (ok.side hx1) (ok.side hz1) (hx2.trans hz2.symm)
        subst this
        rw [hx1] at hz1
        exact hne (Option.some.inj hz1).symm
      · rw [hv] at h4; cases h4
    subst hvc
    intro x u hx
    by_cases hu : u = v
    · subst hu
      rcases h2 x hx with h | h
      · exact h
      · rw [h]; exact hv
    · exact h1 x u hx hu
  | succ n ih =>
    intro fd h ok hs hcon hl h1 h2 h3 h4
    unfold walkM
    split
    · rename_i e
      obtain ⟨v, hv⟩ := Option.isSome_iff_exists.mp e
      refine ⟨ok, ?_, h3, fun x v _ hx => hx⟩
      have hvc : v = c := Decidable.byContradiction fun hne => by
        rcases h4 with ⟨x, hx1, hx2⟩ | h4
        · obtain ⟨z, hz1, hz2⟩ := lab_onto P ok (fun x hx => h1 x v hx hne) hv
          have := P.inj x z (ok.side hx1) (ok.side hz1) (hx2.trans hz2.symm)
          subst this
          rw [hx1] at hz1
          exact hne (Option.some.inj hz1).symm
        · rw [hv] at h4; cases h4
      subst hvc
      intro x u hx
      by_cases hu : u = v
      · subst hu
        rcases h2 x hx with h | h
        · exact h
        · rw [h]; exact hv
      · exact h1 x u hx hu
    · rename_i e
      have e0 : dget fd h = none := by simpa using e
      obtain ⟨ok', hlen⟩ := ok.put hs e0 c
      have gp : ∀ x, dget (dput fd h c) x = if x = h then some c else dget fd x := fun x => dget_dput fd h x c
      have g1 : ∀ x v, dget (dput fd h c) x = some v → v ≠ c → dget (dput fd h c) (nx x) = some v := fun x v hx hv => by
        rw [gp] at hx
        split at hx
        · exact absurd (Option.some.inj hx).symm hv
        · have := h1 x v hx hv
          rw [gp, if_neg, this]
          intro z
          rw [z, e0] at this
          cases this
      have g2 : ∀ x, dget (dput fd h c) x = some c → dget (dput fd h c) (nx x) = some c ∨ nx x = nx h := fun x hx => by
        rw [gp] at hx
        split at hx
        · rename_i z; subst z; exact .inr rfl
        · rcases h2 x hx with h | h
          · left
            rw [gp, if_neg, h]
            intro z
            rw [z, e0] at h
            cases h
          · left
            rw [gp, h, if_pos rfl]
      have g3 : ∀ x, dget (dput fd h c) x = some c → Con nx L x h0 := fun x hx => by
        rw [gp] at hx
        split at hx
        · rename_i z; subst z; exact hcon
        · exact h3 x hx
      obtain ⟨r1, r2, r3, r4⟩ := ih (dput fd h c) (nx h) ok' (P.side h hs) ((Con.step hs).symm.trans hcon) (by omega) g1 g2 g3 (.inl ⟨h, by rw [gp, if_pos rfl], rfl⟩)
      refine ⟨r1, r2, r3, fun x v hv hx => ?_⟩
      have := r4 x v hv hx
      rw [gp] at this
      split at this
      · exact absurd (Option.some.inj this).symm hv
      · exact this
theorem step_num (P : Perm nx L) {s : List (Side × Int) × Int} {h : Side} (N : Num nx L s.1 s.2) (hs : isSide L h) (hc : 0 ≤ s.2) : Num nx L (sideStep nx L s h).1 (sideStep nx L s h).2 ∧ 0 ≤ (sideStep nx L s h).2 := by
  obtain ⟨v, hv⟩ := sideStep_has (nx := nx) (L := L) (s := s) (h := h)
  unfold sideStep at hv ⊢
  split
  · exact ⟨N, hc⟩
  · rename_i e
    rw [if_neg e] at hv
    have e0 : dget s.1 h = none := by simpa using e
    have noc : ∀ x, dget s.1 x ≠ some s.2 := fun x hx => by have := (N.bd x _ hx).2; omega
    obtain ⟨r1, r2, r3, r4⟩ := walk_num P (c := s.2) (h0 := h) (2 * (L + 1)) s.1 h N.ok hs (.rfl h) (by omega) (fun x v hx _ => N.inv x v hx) (fun x hx => absurd hx (noc x)) (fun x hx => absurd hx (noc x)) (.inr e0)
    have hvc : v = s.2 := Decidable.byContradiction fun hne => by
      have := r4 h v hne hv
      rw [e0] at this; cases this
    subst hvc
    refine ⟨⟨r1, r2, fun x v hx => ?_, fun v h1 h2 => ?_, fun x y v hx hy => ?_⟩, by show 0 ≤ s.2 + 1; omega⟩
    · show 0 ≤ v ∧ v < s.2 + 1
      by_cases hvv : v = s.2
      · omega
      · have := N.bd x v (r4 x v hvv hx)
        omega
    · have h2 : v < s.2 + 1 := h2
      by_cases hvv : v = s.2
      · subst hvv; exact ⟨h, hv⟩
      · obtain ⟨x, hx⟩ := N.all v h1 (by omega)
        exact ⟨x, walkM_keep _ _ _ hx⟩
    · by_cases hvv : v = s.2
      · subst hvv
        exact (r3 x hx).trans (r3 y hy).symm
      · exact N.con x y v (r4 x v hvv hx) (r4 y v hvv hy)
end
/-- the numbering of an arc's sides -/
theorem sides_num {row : List Int} {tn : List (Int × Int)} (P : Perm (beyondM row tn (placesM row)) row.length) : Num (beyondM row tn (placesM row)) row.length (sidesM row tn) (sidesN row tn).2 ∧ 0 ≤ (sidesN row tn).2 := by
  have : ∀ n, n ≤ row.length + 1 → Num (beyondM row tn (placesM row)) row.length (sidesQ row tn n).1 (sidesQ row tn n).2 ∧ 0 ≤ (sidesQ row tn n).2 := by
    intro n
    induction n with
    | zero =>
      intro _
      refine ⟨⟨⟨by simp [sidesQ], by simp [sidesQ]⟩, fun x v h => (nomatch h), fun x v h => (nomatch h), fun v h1 h2 => ?_, fun x y v h => (nomatch h)⟩, Int.le_refl _⟩
      have : v < 0 := h2
      omega
    | succ n ih =>
      intro hn
      rw [sidesQ_succ]
      obtain ⟨a, b⟩ := ih (by omega)
      obtain ⟨a1, b1⟩ := step_num P (h := ((n : Int), 1)) a ⟨by simp only; omega, by simp only; omega, .inl rfl⟩ b
      exact step_num P (h := ((n : Int), -1)) a1 ⟨by simp only; omega, by simp only; omega, .inr rfl⟩ b1
  exact this (row.length + 1) (Nat.le_refl _)
/-- the greatest number: one below their count -/
theorem sides_imax {row : List Int} {tn : List (Int × Int)} (P : Perm (beyondM row tn (placesM row)) row.length) : imax ((sidesM row tn).map (·.2)) = (sidesN row tn).2 - 1 := by
  obtain ⟨N, hc⟩ := sides_num P
  have hne := sides_ne row tn
  obtain ⟨p, hp⟩ := List.exists_mem_of_ne_nil _ hne
  have hb := N.bd p.1 p.2 (dget_of_mem N.ok.1 hp)
  obtain ⟨x, hx⟩ := N.all ((sidesN row tn).2 - 1) (by omega) (by omega)
  symm
  refine imax_eq ?_ fun y hy => ?_
  · exact List.mem_map.mpr ⟨_, dget_mem hx, rfl⟩
  · obtain ⟨q, hq, rfl⟩ := List.mem_map.mp hy
    have := N.bd q.1 q.2 (dget_of_mem N.ok.1 hq)
    omega
end Ov

/-! Plain: an arc has at most one face more than crossings. -/
namespace Ov
/-- an arc: nothing twice, each pass has its other and a turn -/
structure Ar (row : List Int) (tn : List (Int × Int)) : Prop where
  nd : row.Nodup
  wf : WF row tn
  pm : ∀ x ∈ row, x ≠ 0 → ∀ t, dget tn (iabs x) = some t → t = 1 ∨ t = -1
def epsM (tn : List (Int × Int)) (x : Int) : Int := if x < 0 then -(dget tn (iabs x)).getD 0 else (dget tn (iabs x)).getD 0
theorem epsM_neg (tn : List (Int × Int)) {x : Int} (h : x ≠ 0) : epsM tn (-x) = -epsM tn x := by
  unfold epsM
  rw [iabs_neg]
  by_cases h1 : x < 0
  · rw [if_pos h1, if_neg (by omega)]; omega
  · rw [if_neg h1, if_pos (by omega)]
theorem Ar.eps {row : List Int} {tn : List (Int × Int)} (A : Ar row tn) {x : Int} (hx : x ∈ row) (h0 : x ≠ 0) : epsM tn x = 1 ∨ epsM tn x = -1 := by
  obtain ⟨_, t, ht⟩ := A.wf x hx h0
  have := A.pm x hx h0 t ht
  unfold epsM
  rw [ht]
  simp only [Option.getD_some]
  split <;> omega
theorem place_of {row : List Int} (hn : row.Nodup) {x : Int} (hx : x ∈ row) : dget (placesM row) x = some ((row.idxOf x : Nat) : Int) := by
  obtain ⟨i, h1, h2, h3⟩ := placesM_get row x hx
  rw [h2]
  have hlt := List.idxOf_lt_length_of_mem hx
  have e1 : row[i] = x := (List.getElem?_eq_some_iff.mp h3).2
  have e2 : row[row.idxOf x] = x := List.getElem_idxOf hlt
  have : i = row.idxOf x := (List.getElem_inj hn).mp (e1.trans e2.symm)
  rw [this]
/-- beyond, of the first m things: a pass whose other comes later is as the mark -/
def beyP (row : List Int) (tn : List (Int × Int)) (m : Nat) (h : Side) : Side :=
  if (if h.2 = 1 then h.1 else h.1 - 1) < 0 ∨ (if h.2 = 1 then h.1 else h.1 - 1) = m then (h.1, -h.2)
  else if row.getD (if h.2 = 1 then h.1 else h.1 - 1).toNat 0 = 0 ∨ m ≤ row.idxOf (-(row.getD (if h.2 = 1 then h.1 else h.1 - 1).toNat 0)) then (h.1 + h.2, h.2)
  else if epsM tn (row.getD (if h.2 = 1 then h.1 else h.1 - 1).toNat 0) * h.2 = 1 then (((row.idxOf (-(row.getD (if h.2 = 1 then h.1 else h.1 - 1).toNat 0)) : Nat) : Int) + 1, 1)
  else (((row.idxOf (-(row.getD (if h.2 = 1 then h.1 else h.1 - 1).toNat 0)) : Nat) : Int), -1)
section
variable {row : List Int} {tn : List (Int × Int)}
theorem bey_up {m : Nat} {i : Nat} (hi : i < m) : beyP row tn m ((i : Int), 1) = if row.getD i 0 = 0 ∨ m ≤ row.idxOf (-(row.getD i 0)) then ((i : Int) + 1, 1) else if epsM tn (row.getD i 0) = 1 then (((row.idxOf (-(row.getD i 0)) : Nat) : Int) + 1, 1) else (((row.idxOf (-(row.getD i 0)) : Nat) : Int), -1) := by
  unfold beyP
  simp only [if_true]
  rw [if_neg (by omega), show ((i : Int)).toNat = i by omega, Int.mul_one]
theorem bey_dn {m : Nat} {i : Nat} (hi : i < m) : beyP row tn m ((i : Int) + 1, -1) = if row.getD i 0 = 0 ∨ m ≤ row.idxOf (-(row.getD i 0)) then ((i : Int), -1) else if epsM tn (row.getD i 0) = -1 then (((row.idxOf (-(row.getD i 0)) : Nat) : Int) + 1, 1) else (((row.idxOf (-(row.getD i 0)) : Nat) : Int), -1) := by
  unfold beyP
  simp only [show ¬ ((-1 : Int) = 1) by decide, if_false]
  rw [show (i : Int) + 1 - 1 = (i : Int) by omega, if_neg (by omega), show ((i : Int)).toNat = i by omega, show (i : Int) + 1 + -1 = (i : Int) by omega]
  have : (epsM tn (row.getD i 0) * -1 = 1) ↔ (epsM tn (row.getD i 0) = -1) := by omega
  simp only [this]
theorem bey_end {m : Nat} : beyP row tn m ((m : Int), 1) = ((m : Int), -1) := by
  unfold beyP
  simp only [if_true]
  rw [if_pos (.inr trivial)]
theorem bey_beg {m : Nat} : beyP row tn m (0, -1) = (0, 1) := by
  unfold beyP
  simp only [show ¬ ((-1 : Int) = 1) by decide, if_false]
  rw [if_pos (.inl (by decide))]
  rfl
/-- the four kinds of sides -/
theorem side_kind {m : Nat} {h : Side} (hs : isSide m h) : (∃ i : Nat, i < m ∧ h = ((i : Int), 1)) ∨ (∃ i : Nat, i < m ∧ h = ((i : Int) + 1, -1)) ∨ h = ((m : Int), 1) ∨ h = (0, -1) := by
  obtain ⟨g, w⟩ := h
  obtain ⟨h1, h2, h3⟩ := hs
  simp only at h1 h2 h3
  rcases h3 with rfl | rfl
  · by_cases e : g = m
    · subst e; exact .inr (.inr (.inl rfl))
    · refine .inl ⟨g.toNat, by omega, ?_⟩
      rw [Int.toNat_of_nonneg h1]
  · by_cases e : g = 0
    · subst e; exact .inr (.inr (.inr rfl))
    · refine .inr (.inl ⟨(g - 1).toNat, by omega, ?_⟩)
      rw [Int.toNat_of_nonneg (by omega)]
      congr 1
      omega
theorem get_mem {i : Nat} (h : i < row.length) : row.getD i 0 ∈ row := getD_mem h
theorem idx_get (hn : row.Nodup) {i : Nat} (h : i < row.length) : row.idxOf (row.getD i 0) = i := by
  have hm := get_mem h
  have hlt := List.idxOf_lt_length_of_mem hm
  have e2 : row[row.idxOf (row.getD i 0)] = row.getD i 0 := List.getElem_idxOf hlt
  have e1 : row[i] = row.getD i 0 := by rw [List.getD_eq_getElem?_getD, List.getElem?_eq_getElem h]; rfl
  exact (List.getElem_inj hn).mp (e2.trans e1.symm)
theorem get_idx {x : Int} (h : x ∈ row) : row.getD (row.idxOf x) 0 = x := by
  have hlt := List.idxOf_lt_length_of_mem h
  rw [List.getD_eq_getElem?_getD, List.getElem?_eq_getElem hlt, List.getElem_idxOf hlt]; rfl
/-- of the whole arc it is beyond -/
theorem bey_all (A : Ar row tn) {h : Side} (hs : isSide row.length h) : beyondM row tn (placesM row) h = beyP row tn row.length h := by
  have act : ∀ i, i < row.length → row.getD i 0 ≠ 0 → ¬ (row.getD i 0 = 0 ∨ row.length ≤ row.idxOf (-(row.getD i 0))) := fun i hi h0 z => by
    rcases z with z | z
    · exact h0 z
    · have := List.idxOf_lt_length_of_mem (A.wf _ (get_mem hi) h0).1
      omega
  rcases side_kind hs with ⟨i, hi, rfl⟩ | ⟨i, hi, rfl⟩ | rfl | rfl
  · rw [bey_up hi]
    unfold beyondM
    simp only [if_true]
    rw [if_neg (by omega), show ((i : Int)).toNat = i by omega]
    by_cases h0 : row.getD i 0 = 0
    · rw [if_pos h0, if_pos (.inl h0)]
    · rw [if_neg h0, if_neg (act i hi h0), place_of A.nd (A.wf _ (get_mem hi) h0).1, Option.getD_some]
      unfold epsM
      simp only [Int.mul_one]
  · rw [bey_dn hi]
    unfold beyondM
    simp only [show ¬ ((-1 : Int) = 1) by decide, if_false]
    rw [show (i : Int) + 1 - 1 = (i : Int) by omega, if_neg (by omega), show ((i : Int)).toNat = i by omega]
    by_cases h0 : row.getD i 0 = 0
    · rw [if_pos h0, if_pos (.inl h0)]
      congr 1
      omega
    · rw [if_neg h0, if_neg (act i hi h0), place_of A.nd (A.wf _ (get_mem hi) h0).1, Option.getD_some]
      have : ((if row.getD i 0 < 0 then -((dget tn (iabs (row.getD i 0))).getD 0 * -1) else (dget tn (iabs (row.getD i 0))).getD 0 * -1) = 1) ↔ epsM tn (row.getD i 0) = -1 := by
        unfold epsM
        split <;> omega
      simp only [this]
  · rw [bey_end]
    unfold beyondM
    simp only [if_true]
    rw [if_pos (.inr trivial)]
  · rw [bey_beg]
    unfold beyondM
    simp only [show ¬ ((-1 : Int) = 1) by decide, if_false]
    rw [if_pos (.inl (by decide))]
    rfl
/-- the way back -/
def backM (row : List Int) (tn : List (Int × Int)) (h : Side) : Side :=
  if h = (0, 1) then (0, -1) else if h = ((row.length : Int), -1) then ((row.length : Int), 1)
  else if row.getD (if h.2 = 1 then h.1 - 1 else h.1).toNat 0 = 0 then (h.1 - h.2, h.2)
  else if epsM tn (-(row.getD (if h.2 = 1 then h.1 - 1 else h.1).toNat 0)) * h.2 = 1 then (((row.idxOf (-(row.getD (if h.2 = 1 then h.1 - 1 else h.1).toNat 0)) : Nat) : Int), 1)
  else (((row.idxOf (-(row.getD (if h.2 = 1 then h.1 - 1 else h.1).toNat 0)) : Nat) : Int) + 1, -1)
theorem back_up {i : Nat} (hi : i < row.length) : backM row tn ((i : Int) + 1, 1) = if row.getD i 0 = 0 then ((i : Int), 1) else if epsM tn (-(row.getD i 0)) = 1 then (((row.idxOf (-(row.getD i 0)) : Nat) : Int), 1) else (((row.idxOf (-(row.getD i 0)) : Nat) : Int) + 1, -1) := by
  unfold backM
  rw [if_neg (fun z => by have := congrArg Prod.fst z; simp only at this; omega), if_neg (fun z => by have := congrArg Prod.snd z; simp only at this; omega)]
  simp only [if_true]
  rw [show ((i : Int) + 1 - 1) = (i : Int) by omega, show ((i : Int)).toNat = i by omega, Int.mul_one]
theorem back_dn {i : Nat} (hi : i < row.length) : backM row tn ((i : Int), -1) = if row.getD i 0 = 0 then ((i : Int) + 1, -1) else if epsM tn (-(row.getD i 0)) = -1 then (((row.idxOf (-(row.getD i 0)) : Nat) : Int), 1) else (((row.idxOf (-(row.getD i 0)) : Nat) : Int) + 1, -1) := by
  unfold backM
  rw [if_neg (fun z => by have := congrArg Prod.snd z; simp only at this; omega), if_neg (fun z => by have := congrArg Prod.fst z; simp only at this; omega)]
  simp only [show ¬ ((-1 : Int) = 1) by decide, if_false]
  rw [show ((i : Int)).toNat = i by omega, show (i : Int) - -1 = (i : Int) + 1 by omega]
  have : (epsM tn (-(row.getD i 0)) * -1 = 1) ↔ (epsM tn (-(row.getD i 0)) = -1) := by omega
  simp only [this]
theorem bey_perm (A : Ar row tn) : Perm (beyondM row tn (placesM row)) row.length := by
  have key : ∀ h, isSide row.length h → backM row tn (beyondM row tn (placesM row) h) = h := by
    intro h hs
    rw [bey_all A hs]
    have act : ∀ i, i < row.length → row.getD i 0 ≠ 0 → ¬ (row.getD i 0 = 0 ∨ row.length ≤ row.idxOf (-(row.getD i 0))) := fun i hi h0 z => by
      rcases z with z | z
      · exact h0 z
      · have := List.idxOf_lt_length_of_mem (A.wf _ (get_mem hi) h0).1
        omega
    rcases side_kind hs with ⟨i, hi, rfl⟩ | ⟨i, hi, rfl⟩ | rfl | rfl
    · rw [bey_up hi]
      by_cases h0 : row.getD i 0 = 0
      · rw [if_pos (.inl h0), back_up hi, if_pos h0]
      · have hm := (A.wf _ (get_mem hi) h0).1
        have hlt := List.idxOf_lt_length_of_mem hm
        have e1 := get_idx hm
        have e2 := idx_get A.nd hi
        have e3 := A.eps (get_mem hi) h0
        have n0 : ¬ -(row.getD i 0) = 0 := by omega
        rw [if_neg (act i hi h0)]
        by_cases he : epsM tn (row.getD i 0) = 1
        · rw [if_pos he, back_up hlt, e1, if_neg n0, Int.neg_neg, if_pos he, e2]
        · rw [if_neg he, back_dn hlt, e1, if_neg n0, Int.neg_neg, if_pos (by omega), e2]
    · rw [bey_dn hi]
      by_cases h0 : row.getD i 0 = 0
      · rw [if_pos (.inl h0), back_dn hi, if_pos h0]
      · have hm := (A.wf _ (get_mem hi) h0).1
        have hlt := List.idxOf_lt_length_of_mem hm
        have e1 := get_idx hm
        have e2 := idx_get A.nd hi
        have e3 := A.eps (get_mem hi) h0
        have n0 : ¬ -(row.getD i 0) = 0 := by omega
        rw [if_neg (act i hi h0)]
        by_cases he : epsM tn (row.getD i 0) = -1
        · rw [if_pos he, back_up hlt, e1, if_neg n0, Int.neg_neg, if_neg (by omega), e2]
        · rw [if_neg he, back_dn hlt, e1, if_neg n0, Int.neg_neg, if_neg he, e2]
    · rw [bey_end]
      unfold backM
      rw [if_neg (fun z => by have := congrArg Prod.snd z; simp only at this; omega), if_pos rfl]
    · rw [bey_beg]
      unfold backM
      rw [if_pos rfl]
  exact ⟨fun x hx => beyond_side A.wf hx, fun x y hx hy e => by rw [← key x hx, ← key y hy, e]⟩
end
end Ov

/-! Plain: the faces of an arc are at most one more than its crossings. -/
namespace Ov
theorem Con.rel {nx : Side → Side} {L : Nat} {R : Side → Side → Prop} (rf : ∀ x, R x x) (sy : ∀ x y, R x y → R y x) (tr : ∀ x y z, R x y → R y z → R x z) (st : ∀ s, isSide L s → R s (nx s)) {x y : Side} (h : Con nx L x y) : R x y := by
  induction h with
  | rfl x => exact rf x
  | fwd hx _ ih => exact tr _ _ _ (st _ hx) ih
  | bwd hx _ ih => exact tr _ _ _ (sy _ _ (st _ hx)) ih
/-- crossings that are closed among the first m things -/
def crossN (row : List Int) : Nat → Nat
  | 0 => 0
  | m + 1 => crossN row m + if row.getD m 0 ≠ 0 ∧ row.idxOf (-(row.getD m 0)) < m then 1 else 0
theorem isSide_succ {m : Nat} {s : Side} (h : isSide m s) : isSide (m + 1) s := ⟨h.1, by have := h.2.1; push_cast; omega, h.2.2⟩
theorem cover {row : List Int} {tn : List (Int × Int)} (A : Ar row tn) : ∀ m, m ≤ row.length → ∃ reps : List Side, reps.length ≤ crossN row m + 1 ∧ ∀ s, isSide m s → ∃ r ∈ reps, Con (beyP row tn m) m s r := by
  intro m
  induction m with
  | zero =>
    intro _
    refine ⟨[(0, 1)], by simp [crossN], fun s hs => ⟨_, List.mem_cons_self, ?_⟩⟩
    have h1 : isSide 0 ((0 : Int), (1 : Int)) := ⟨by decide, by decide, .inl rfl⟩
    rcases side_kind hs with ⟨i, hi, rfl⟩ | ⟨i, hi, rfl⟩ | rfl | rfl
    · omega
    · omega
    · exact .rfl _
    · have := Con.step (nx := beyP row tn 0) h1
      rw [show ((0 : Int), (1 : Int)) = (((0 : Nat) : Int), (1 : Int)) from rfl, bey_end] at this
      exact this.symm
  | succ m ih =>
    intro hm
    obtain ⟨reps, hlen, hcov⟩ := ih (by omega)
    have hml : m < row.length := by omega
    have sm : isSide (m + 1) ((m : Int), 1) := ⟨by simp only; omega, by simp only; push_cast; omega, .inl rfl⟩
    have sm1 : isSide (m + 1) ((m : Int) + 1, 1) := ⟨by simp only; omega, by simp only; push_cast; omega, .inl rfl⟩
    have sm2 : isSide (m + 1) ((m : Int) + 1, -1) := ⟨by simp only; omega, by simp only; push_cast; omega, .inr rfl⟩
    have tip : Con (beyP row tn (m + 1)) (m + 1) ((m : Int) + 1, 1) ((m : Int) + 1, -1) := by
      have := Con.step (nx := beyP row tn (m + 1)) sm1
      rw [show ((m : Int) + 1, (1 : Int)) = (((m + 1 : Nat) : Int), (1 : Int)) by push_cast; rfl, bey_end] at this
      rw [show ((m : Int) + 1, (1 : Int)) = (((m + 1 : Nat) : Int), (1 : Int)) by push_cast; rfl, show ((m : Int) + 1, (-1 : Int)) = (((m + 1 : Nat) : Int), (-1 : Int)) by push_cast; rfl]
      exact this
    have new : ∀ s, isSide (m + 1) s → isSide m s ∨ s = ((m : Int) + 1, 1) ∨ s = ((m : Int) + 1, -1) := fun s hs => by
      obtain ⟨g, w⟩ := s
      obtain ⟨h1, h2, h3⟩ := hs
      simp only at h1 h2 h3
      by_cases e : g ≤ m
      · exact .inl ⟨h1, e, h3⟩
      · have : g = (m : Int) + 1 := by push_cast at h2; omega
        subst this
        rcases h3 with rfl | rfl
        · exact .inr (.inl rfl)
        · exact .inr (.inr rfl)
    have other : ∀ i, i < m → row.getD i 0 ≠ 0 → row.idxOf (-(row.getD i 0)) = m → row.getD m 0 ≠ 0 ∧ row.idxOf (-(row.getD m 0)) = i := fun i hi h0 e => by
      have hmem : -(row.getD i 0) ∈ row := List.idxOf_lt_length_iff.mp (by omega)
      have := get_idx hmem
      rw [e] at this
      rw [this]
      exact ⟨by omega, by rw [Int.neg_neg, idx_get A.nd (by omega)]⟩
    by_cases hx : row.getD m 0 ≠ 0 ∧ row.idxOf (-(row.getD m 0)) < m
    · -- a crossing is closed
      obtain ⟨h0, ho⟩ := hx
      have hc : crossN row (m + 1) = crossN row m + 1 := by show crossN row m + _ = _; rw [if_pos ⟨h0, ho⟩]
      have hmx := get_mem hml
      have hmem : -(row.getD m 0) ∈ row := (A.wf _ hmx h0).1
      have he := A.eps hmx h0
      have hgo : row.getD (row.idxOf (-(row.getD m 0))) 0 = -(row.getD m 0) := get_idx hmem
      have hio : row.idxOf (-(-(row.getD m 0))) = m := by rw [Int.neg_neg, idx_get A.nd hml]
      have hen := epsM_neg tn h0
      have n0 : -(row.getD m 0) ≠ 0 := by omega
      generalize row.idxOf (-(row.getD m 0)) = o at *
      generalize hX : row.getD m 0 = x at *
      have so1 : isSide m ((o : Int), 1) := ⟨by simp only; omega, by simp only; omega, .inl rfl⟩
      have so2 : isSide m ((o : Int) + 1, -1) := ⟨by simp only; omega, by simp only; omega, .inr rfl⟩
      -- the steps, new and old
      have same : ∀ i, i < m → i ≠ o → ((row.getD i 0 = 0 ∨ m + 1 ≤ row.idxOf (-(row.getD i 0))) ↔ (row.getD i 0 = 0 ∨ m ≤ row.idxOf (-(row.getD i 0)))) := fun i hi hne => by
        constructor
        · rintro (h | h)
          · exact .inl h
          · exact .inr (by omega)
        · rintro (h | h)
          · exact .inl h
          · by_cases hz : row.getD i 0 = 0
            · exact .inl hz
            · right
              by_cases he : row.idxOf (-(row.getD i 0)) = m
              · have := (other i hi hz he).2
                omega
              · omega
      have new_m : beyP row tn (m + 1) ((m : Int), 1) = if epsM tn x = 1 then ((o : Int) + 1, 1) else ((o : Int), -1) := by
        have := bey_up (row := row) (tn := tn) (m := m + 1) (i := m) (by omega)
        rw [this, hX, if_neg]
        · have e : row.idxOf (-x) = o := by
            have := idx_get A.nd (i := o) (by omega)
            rw [hgo] at this; exact this
          rw [e]
        · rintro (h | h)
          · exact h0 h
          · have e : row.idxOf (-x) = o := by
              have := idx_get A.nd (i := o) (by omega)
              rw [hgo] at this; exact this
            omega
      have new_m1 : beyP row tn (m + 1) ((m : Int) + 1, -1) = if epsM tn x = -1 then ((o : Int) + 1, 1) else ((o : Int), -1) := by
        have := bey_dn (row := row) (tn := tn) (m := m + 1) (i := m) (by omega)
        have e : row.idxOf (-x) = o := by
          have := idx_get A.nd (i := o) (by omega)
          rw [hgo] at this; exact this
        rw [this, hX, if_neg, e]
        rintro (h | h)
        · exact h0 h
        · omega
      have new_o : beyP row tn (m + 1) ((o : Int), 1) = if epsM tn x = -1 then ((m : Int) + 1, 1) else ((m : Int), -1) := by
        rw [bey_up (by omega), hgo, hio, if_neg (by omega), hen]
        have : (-epsM tn x = 1) ↔ (epsM tn x = -1) := by omega
        simp only [this]
      have new_o1 : beyP row tn (m + 1) ((o : Int) + 1, -1) = if epsM tn x = 1 then ((m : Int) + 1, 1) else ((m : Int), -1) := by
        rw [bey_dn (by omega), hgo, hio, if_neg (by omega), hen]
        have : (-epsM tn x = -1) ↔ (epsM tn x = 1) := by omega
        simp only [this]
      have old_o : beyP row tn m ((o : Int), 1) = ((o : Int) + 1, 1) := by
        rw [bey_up ho, hgo, hio, if_pos (.inr (Nat.le_refl _))]
      have old_o1 : beyP row tn m ((o : Int) + 1, -1) = ((o : Int), -1) := by
        rw [bey_dn ho, hgo, hio, if_pos (.inr (Nat.le_refl _))]
      have olds : ∀ s, isSide m s → s = ((m : Int), 1) ∨ s = ((o : Int), 1) ∨ s = ((o : Int) + 1, -1) ∨ beyP row tn (m + 1) s = beyP row tn m s := fun s hs => by
        rcases side_kind hs with ⟨i, hi, rfl⟩ | ⟨i, hi, rfl⟩ | rfl | rfl
        · by_cases e : i = o
          · subst e; exact .inr (.inl rfl)
          · right; right; right
            rw [bey_up hi, bey_up (by omega)]
            simp only [same i hi e]
        · by_cases e : i = o
          · subst e; exact .inr (.inr (.inl rfl))
          · right; right; right
            rw [bey_dn hi, bey_dn (by omega)]
            simp only [same i hi e]
        · exact .inl rfl
        · right; right; right
          rw [bey_beg, bey_beg]
      -- a, b: where two steps were exchanged; d: where one is longer
      have sm0 : isSide m ((m : Int), 1) := ⟨by simp only; omega, Int.le_refl _, .inl rfl⟩
      obtain ⟨a, b, d, ha, hb, hd, cab, cba, cd, cnew, hcase⟩ : ∃ a b d : Side, isSide m a ∧ isSide m b ∧ isSide m d ∧ Con (beyP row tn (m + 1)) (m + 1) a (beyP row tn m b) ∧ Con (beyP row tn (m + 1)) (m + 1) b (beyP row tn m a) ∧ Con (beyP row tn (m + 1)) (m + 1) d (beyP row tn m d) ∧
          Con (beyP row tn (m + 1)) (m + 1) ((m : Int) + 1, 1) d ∧ ∀ s, isSide m s → s = a ∨ s = b ∨ s = d ∨ beyP row tn (m + 1) s = beyP row tn m s := by
        have c1 := Con.step (nx := beyP row tn (m + 1)) sm
        have c2 := Con.step (nx := beyP row tn (m + 1)) (isSide_succ so1)
        have c3 := Con.step (nx := beyP row tn (m + 1)) (isSide_succ so2)
        have c4 := Con.step (nx := beyP row tn (m + 1)) sm2
        rcases he with he | he
        · have hne : ¬ epsM tn x = -1 := by omega
          rw [new_m, if_pos he] at c1
          rw [new_o, if_neg hne] at c2
          rw [new_o1, if_pos he] at c3
          rw [new_m1, if_neg hne] at c4
          refine ⟨((m : Int), 1), ((o : Int), 1), ((o : Int) + 1, -1), sm0, so1, so2, ?_, ?_, ?_, ?_, olds⟩
          · rw [old_o]; exact c1
          · rw [bey_end]; exact c2
          · rw [old_o1]; exact c3.trans (tip.trans c4)
          · exact c3.symm
        · have hne : ¬ epsM tn x = 1 := by omega
          rw [new_m, if_neg hne] at c1
          rw [new_o, if_pos he] at c2
          rw [new_o1, if_neg hne] at c3
          rw [new_m1, if_pos he] at c4
          refine ⟨((m : Int), 1), ((o : Int) + 1, -1), ((o : Int), 1), sm0, so2, so1, ?_, ?_, ?_, ?_, fun s hs => ?_⟩
          · rw [old_o1]; exact c1
          · rw [bey_end]; exact c3
          · rw [old_o]; exact c2.trans (tip.trans c4)
          · exact c2.symm
          · rcases olds s hs with h | h | h | h
            · exact .inl h
            · exact .inr (.inr (.inl h))
            · exact .inr (.inl h)
            · exact .inr (.inr (.inr h))
      let C := Con (beyP row tn (m + 1)) (m + 1)
      have key : ∀ {u v : Side}, Con (beyP row tn m) m u v → (C u v ∨ ((C u a ∨ C u b) ∧ (C v a ∨ C v b))) := fun {u v} h => by
        refine Con.rel (R := fun u v => C u v ∨ ((C u a ∨ C u b) ∧ (C v a ∨ C v b))) (fun x => .inl (.rfl x)) ?_ ?_ ?_ h
        · rintro x y (h | ⟨h1, h2⟩)
          · exact .inl h.symm
          · exact .inr ⟨h2, h1⟩
        · rintro x y z (h | ⟨h1, h2⟩) (k | ⟨k1, k2⟩)
          · exact .inl (h.trans k)
          · exact .inr ⟨k1.imp (fun q => h.trans q) (fun q => h.trans q), k2⟩
          · exact .inr ⟨h1, h2.imp (fun q => k.symm.trans q) (fun q => k.symm.trans q)⟩
          · exact .inr ⟨h1, k2⟩
        · intro s hs
          rcases hcase s hs with rfl | rfl | rfl | h
          · exact .inr ⟨.inl (.rfl _), .inr cba.symm⟩
          · exact .inr ⟨.inr (.rfl _), .inl cab.symm⟩
          · exact .inl cd
          · left
            rw [← h]
            exact Con.step (isSide_succ hs)
      -- one that stands for a
      obtain ⟨r0, hr0, k0⟩ : ∃ r0 ∈ reps, C r0 a ∨ C r0 b := by
        obtain ⟨r, hr, hc⟩ := hcov a ha
        rcases key hc with h | ⟨_, h⟩
        · exact ⟨r, hr, .inl h.symm⟩
        · exact ⟨r, hr, h⟩
      have fin : ∀ z w : Side, C r0 z → (∀ u, (C u a ∨ C u b) → (C u z ∨ C u w)) → ∃ reps' : List Side, reps'.length ≤ crossN row (m + 1) + 1 ∧ ∀ s, isSide (m + 1) s → ∃ r ∈ reps', C s r := fun z w hz hw => by
        have olds2 : ∀ s, isSide m s → ∃ r ∈ w :: reps, C s r := fun s hs => by
          obtain ⟨r, hr, hc⟩ := hcov s hs
          rcases key hc with h | ⟨h, _⟩
          · exact ⟨r, List.mem_cons_of_mem _ hr, h⟩
          · rcases hw s h with h | h
            · exact ⟨r0, List.mem_cons_of_mem _ hr0, h.trans hz.symm⟩
            · exact ⟨w, List.mem_cons_self, h⟩
        refine ⟨w :: reps, by rw [hc, List.length_cons]; omega, fun s hs => ?_⟩
        rcases new s hs with h | rfl | rfl
        · exact olds2 s h
        · obtain ⟨r, hr, h⟩ := olds2 d hd
          exact ⟨r, hr, cnew.trans h⟩
        · obtain ⟨r, hr, h⟩ := olds2 d hd
          exact ⟨r, hr, tip.symm.trans (cnew.trans h)⟩
      rcases k0 with k0 | k0
      · exact fin a b k0 fun u h => h
      · exact fin b a k0 fun u h => h.symm
    · -- none is closed
      have hc : crossN row (m + 1) = crossN row m := by show crossN row m + _ = _; rw [if_neg hx]; rfl
      have hx0 : row.getD m 0 = 0 ∨ m ≤ row.idxOf (-(row.getD m 0)) := by
        by_cases h0 : row.getD m 0 = 0
        · exact .inl h0
        · exact .inr (Nat.le_of_not_lt fun z => hx ⟨h0, z⟩)
      have hx1 : row.getD m 0 = 0 ∨ m + 1 ≤ row.idxOf (-(row.getD m 0)) := by
        rcases hx0 with h | h
        · exact .inl h
        · by_cases h0 : row.getD m 0 = 0
          · exact .inl h0
          · right
            by_cases e : row.idxOf (-(row.getD m 0)) = m
            · have hmem : -(row.getD m 0) ∈ row := List.idxOf_lt_length_iff.mp (by omega)
              have := get_idx hmem
              rw [e] at this
              omega
            · omega
      have same : ∀ i, i < m → ((row.getD i 0 = 0 ∨ m + 1 ≤ row.idxOf (-(row.getD i 0))) ↔ (row.getD i 0 = 0 ∨ m ≤ row.idxOf (-(row.getD i 0)))) := fun i hi => by
        constructor
        · rintro (h | h)
          · exact .inl h
          · exact .inr (by omega)
        · rintro (h | h)
          · exact .inl h
          · by_cases hz : row.getD i 0 = 0
            · exact .inl hz
            · right
              by_cases he : row.idxOf (-(row.getD i 0)) = m
              · obtain ⟨o1, o2⟩ := other i hi hz he
                rcases hx0 with h | h
                · exact absurd h o1
                · omega
              · omega
      have c1 := Con.step (nx := beyP row tn (m + 1)) sm
      rw [bey_up (by omega), if_pos hx1] at c1
      have c2 := Con.step (nx := beyP row tn (m + 1)) sm2
      rw [bey_dn (by omega), if_pos hx1] at c2
      have lift : ∀ s, isSide m s → Con (beyP row tn (m + 1)) (m + 1) s (beyP row tn m s) := fun s hs => by
        rcases side_kind hs with ⟨i, hi, rfl⟩ | ⟨i, hi, rfl⟩ | rfl | rfl
        · have := Con.step (nx := beyP row tn (m + 1)) (isSide_succ hs)
          rw [bey_up (by omega)] at this
          rw [bey_up hi]
          simp only [same i hi] at this
          exact this
        · have := Con.step (nx := beyP row tn (m + 1)) (isSide_succ hs)
          rw [bey_dn (by omega)] at this
          rw [bey_dn hi]
          simp only [same i hi] at this
          exact this
        · rw [bey_end]
          exact c1.trans (tip.trans c2)
        · have := Con.step (nx := beyP row tn (m + 1)) (isSide_succ hs)
          rw [bey_beg] at this
          rw [bey_beg]
          exact this
      have up : ∀ {u v : Side}, Con (beyP row tn m) m u v → Con (beyP row tn (m + 1)) (m + 1) u v := fun {u v} h =>
        Con.rel (R := Con (beyP row tn (m + 1)) (m + 1)) (fun x => .rfl x) (fun _ _ h => h.symm) (fun _ _ _ h k => h.trans k) lift h
      have sm0 : isSide m ((m : Int), 1) := ⟨by simp only; omega, Int.le_refl _, .inl rfl⟩
      refine ⟨reps, by omega, fun s hs => ?_⟩
      rcases new s hs with h | rfl | rfl
      · obtain ⟨r, hr, hc⟩ := hcov s h
        exact ⟨r, hr, up hc⟩
      · obtain ⟨r, hr, hc⟩ := hcov _ sm0
        exact ⟨r, hr, c1.symm.trans (up hc)⟩
      · obtain ⟨r, hr, hc⟩ := hcov _ sm0
        exact ⟨r, hr, tip.symm.trans (c1.symm.trans (up hc))⟩

/-- closed crossings are distinct -/
theorem crossN_list {row : List Int} (hn : row.Nodup) : ∀ m, m ≤ row.length → ∃ l : List Int, l.length = crossN row m ∧ l.Nodup ∧ ∀ y ∈ l, ∃ i, i < m ∧ row.getD i 0 ≠ 0 ∧ row.idxOf (-(row.getD i 0)) < i ∧ y = iabs (row.getD i 0) := by
  intro m
  induction m with
  | zero => intro _; exact ⟨[], rfl, List.nodup_nil, fun y hy => by cases hy⟩
  | succ m ih =>
    intro hm
    obtain ⟨l, h1, h2, h3⟩ := ih (by omega)
    by_cases hx : row.getD m 0 ≠ 0 ∧ row.idxOf (-(row.getD m 0)) < m
    · refine ⟨iabs (row.getD m 0) :: l, ?_, List.nodup_cons.mpr ⟨fun hmem => ?_, h2⟩, fun y hy => ?_⟩
      · show l.length + 1 = crossN row m + _
        rw [if_pos hx, h1]
      · obtain ⟨i, i1, i2, i3, i4⟩ := h3 _ hmem
        have gi : row.idxOf (row.getD i 0) = i := idx_get hn (by omega)
        have gm : row.idxOf (row.getD m 0) = m := idx_get hn (by omega)
        have hor : row.getD m 0 = row.getD i 0 ∨ row.getD m 0 = -(row.getD i 0) := by
          unfold iabs at i4
          split at i4 <;> split at i4 <;> omega
        rcases hor with e | e
        · rw [e, gi] at gm; omega
        · rw [e] at gm; omega
      · rcases List.mem_cons.mp hy with rfl | hy
        · exact ⟨m, Nat.lt_succ_self m, hx.1, hx.2, rfl⟩
        · obtain ⟨i, i1, i2⟩ := h3 y hy
          exact ⟨i, by omega, i2⟩
    · refine ⟨l, ?_, h2, fun y hy => ?_⟩
      · show l.length = crossN row m + _
        rw [if_neg hx, h1]; rfl
      · obtain ⟨i, i1, i2⟩ := h3 y hy
        exact ⟨i, by omega, i2⟩
/-- numbers without doubles, each from 1 to n: at most n -/
theorem few_of {l : List Int} {n : Nat} (hn : l.Nodup) (h : ∀ y ∈ l, 1 ≤ y ∧ y ≤ n) : l.length ≤ n := by
  have := nodup_le hn (m := (List.range n).map fun i : Nat => (i : Int) + 1) fun y hy => by
    have := h y hy
    exact List.mem_map.mpr ⟨(y - 1).toNat, List.mem_range.mpr (by omega), by omega⟩
  simpa using this
theorem iabs_pos {x : Int} (h : x ≠ 0) : 1 ≤ iabs x := by unfold iabs; split <;> omega
/-- at most one face more than crossings -/
theorem faces_le {row : List Int} {tn : List (Int × Int)} (A : Ar row tn) {n : Nat} (hb : ∀ x ∈ row, iabs x ≤ n) : (sidesN row tn).2 ≤ (n : Int) + 1 := by
  obtain ⟨N, hc0⟩ := sides_num (bey_perm A)
  obtain ⟨reps, hlen, hcov⟩ := cover A row.length (Nat.le_refl _)
  obtain ⟨l, l1, l2, l3⟩ := crossN_list A.nd row.length (Nat.le_refl _)
  have hl : l.length ≤ n := few_of l2 fun y hy => by
    obtain ⟨i, i1, i2, _, rfl⟩ := l3 y hy
    exact ⟨iabs_pos i2, hb _ (get_mem i1)⟩
  have con : ∀ {s r : Side}, Con (beyP row tn row.length) row.length s r → dget (sidesM row tn) s = dget (sidesM row tn) r := fun {s r} h => by
    refine h.keep (f := fun s => dget (sidesM row tn) s) fun x hx => ?_
    rw [← bey_all A hx]
    obtain ⟨v, hv⟩ := sides_has row tn hx
    show dget (sidesM row tn) _ = dget (sidesM row tn) x
    rw [hv]
    exact N.inv x v hv
  have := nodup_le (l := (List.range (sidesN row tn).2.toNat).map fun i : Nat => some (i : Int)) (m := reps.map fun r => dget (sidesM row tn) r) (List.Pairwise.map _ (fun a b (h : a ≠ b) e => h (by have := Option.some.inj e; omega)) List.nodup_range) fun y hy => by
    obtain ⟨i, hi, rfl⟩ := List.mem_map.mp hy
    have hi := List.mem_range.mp hi
    obtain ⟨x, hx⟩ := N.all (i : Int) (by omega) (by omega)
    obtain ⟨r, hr, hc⟩ := hcov x (N.ok.side hx)
    exact List.mem_map.mpr ⟨r, hr, by rw [← con hc]; exact hx⟩
  rw [List.length_map, List.length_map, List.length_range] at this
  omega
/-- what beyond keeps tells faces apart -/
theorem faces_ge {row : List Int} {tn : List (Int × Int)} (A : Ar row tn) {β : Type} [DecidableEq β] (f : Side → β) (hf : ∀ x, isSide row.length x → f (beyondM row tn (placesM row) x) = f x) (l : List β) (hl : l.Nodup) (h : ∀ y ∈ l, ∃ x, isSide row.length x ∧ f x = y) : (l.length : Int) ≤ (sidesN row tn).2 := by
  obtain ⟨N, hc0⟩ := sides_num (bey_perm A)
  -- each number stands for one value
  have := nodup_le (l := l) (m := (List.range (sidesN row tn).2.toNat).map fun i : Nat => match (sidesM row tn).find? (fun p => decide (p.2 = (i : Int))) with | some p => f p.1 | none => f (0, 1)) hl fun y hy => by
    obtain ⟨x, hx, rfl⟩ := h y hy
    obtain ⟨v, hv⟩ := sides_has row tn hx
    have hb := N.bd x v hv
    refine List.mem_map.mpr ⟨v.toNat, List.mem_range.mpr (by omega), ?_⟩
    rw [Int.toNat_of_nonneg hb.1]
    cases e : (sidesM row tn).find? (fun p => decide (p.2 = v)) with
    | none =>
      have := List.find?_eq_none.mp e _ (dget_mem hv)
      simp at this
    | some p =>
      have h1 : p.2 = v := by simpa using List.find?_some e
      have h2 := dget_of_mem N.ok.1 (List.mem_of_find?_eq_some e)
      rw [h1] at h2
      exact (N.con p.1 x v h2 hv).keep hf
  rw [List.length_map, List.length_range] at this
  omega
end Ov

/-! Plain: the faces of a closed braid. -/
namespace Ov
abbrev Ev := Nat × Nat
def gn (w : Wd) (l : Nat) : Nat := (w.getD l (0, 0)).1
def sg (w : Wd) (l : Nat) : Int := (w.getD l (0, 0)).2
/-- the place behind level l -/
def stp (w : Wd) (l p : Nat) : Nat := if p = gn w l then gn w l + 1 else if p = gn w l + 1 then gn w l else p
def isP (w : Wd) (e : Ev) : Bool := decide (e.2 = gn w e.1) || decide (e.2 = gn w e.1 + 1)
def pos (w : Wd) (p : Nat) : Nat → Nat
  | 0 => p
  | l + 1 => stp w l (pos w p l)
def xv (w : Wd) (e : Ev) : Int := if e.2 = gn w e.1 then ((e.1 : Int) + 1) * -sg w e.1 else ((e.1 : Int) + 1) * sg w e.1
def oth (w : Wd) (e : Ev) : Ev := (e.1, if e.2 = gn w e.1 then gn w e.1 + 1 else gn w e.1)

/-! faces: by column and level -/
def lastC (w : Wd) (c : Nat) : Nat → Option Nat
  | 0 => none
  | l + 1 => if gn w l + 1 = c then some l else lastC w c l
def fcM (st : Nat) (w : Wd) (c l : Nat) : Int :=
  if c = 0 then -1 else if c = st then -2 else match lastC w c l with
    | some k => (k : Int)
    | none => match lastC w c w.length with
      | some k => (k : Int)
      | none => -3
section
variable {st : Nat} {w : Wd}
theorem fc_step {c l : Nat} (h : gn w l + 1 ≠ c) : fcM st w c (l + 1) = fcM st w c l := by
  unfold fcM
  rw [show lastC w c (l + 1) = lastC w c l by rw [lastC, if_neg h]]
theorem fc_at {l : Nat} (h : gn w l + 1 < st) : fcM st w (gn w l + 1) (l + 1) = l := by
  unfold fcM
  rw [if_neg (by omega), if_neg (by omega), show lastC w (gn w l + 1) (l + 1) = some l by rw [lastC, if_pos rfl]]
theorem fc_cyc (c : Nat) : fcM st w c w.length = fcM st w c 0 := by
  unfold fcM
  rw [show lastC w c 0 = none from rfl]
  split
  · rfl
  · split
    · rfl
    · cases lastC w c w.length <;> rfl
/-- left and right of a strand -/
def lam (st : Nat) (w : Wd) (e : Ev) : Int × Int := (fcM st w e.2 e.1, fcM st w (e.2 + 1) e.1)
def lamN (st : Nat) (w : Wd) (e : Ev) : Int × Int := (fcM st w (stp w e.1 e.2) (e.1 + 1), fcM st w (stp w e.1 e.2 + 1) (e.1 + 1))
theorem lam_no {e : Ev} (h : isP w e = false) : lam st w e = lamN st w e := by
  obtain ⟨l, p⟩ := e
  unfold isP at h
  simp only [Bool.or_eq_false_iff, decide_eq_false_iff_not] at h
  unfold lam lamN stp
  simp only
  rw [if_neg h.1, if_neg h.2, fc_step (fun z => h.2 z.symm), fc_step (fun z => h.1 (by omega))]
/-- each goes on where the one ahead ended -/
def Ch (st : Nat) (w : Wd) : Int × Int → List Ev → Int × Int → Prop
  | v, [], u => v = u
  | v, e :: r, u => lam st w e = v ∧ Ch st w (lamN st w e) r u
theorem ch_append {a b : List Ev} : ∀ {v u : Int × Int}, Ch st w v (a ++ b) u ↔ ∃ m, Ch st w v a m ∧ Ch st w m b u := by
  induction a with
  | nil =>
    intro v u
    constructor
    · intro h; exact ⟨v, rfl, h⟩
    · rintro ⟨m, h1, h2⟩
      have h1 : v = m := h1
      subst h1
      exact h2
  | cons e r ih =>
    intro v u
    constructor
    · rintro ⟨h1, h2⟩
      obtain ⟨m, a1, a2⟩ := ih.mp h2
      exact ⟨m, ⟨h1, a1⟩, a2⟩
    · rintro ⟨m, ⟨h1, h2⟩, h3⟩
      exact ⟨h1, ih.mpr ⟨m, h2, h3⟩⟩
theorem ch_filter {a : List Ev} : ∀ {v u : Int × Int}, Ch st w v a u → Ch st w v (a.filter (isP w)) u := by
  induction a with
  | nil => intro v u h; exact h
  | cons e r ih =>
    rintro v u ⟨h1, h2⟩
    by_cases hp : isP w e = true
    · rw [List.filter_cons_of_pos hp]
      exact ⟨h1, ih h2⟩
    · rw [List.filter_cons_of_neg hp]
      have := lam_no (st := st) (show isP w e = false by simpa using hp)
      rw [← this, h1] at h2
      exact ih h2
def valAt (st : Nat) (w : Wd) (u : Int × Int) (T : List Ev) : Nat → Int × Int
  | 0 => u
  | g + 1 => lamN st w (T.getD g (0, 0))
theorem ch_get : ∀ {T : List Ev} {v u : Int × Int}, Ch st w v T u → (∀ g, g < T.length → lam st w (T.getD g (0, 0)) = valAt st w v T g) ∧ valAt st w v T T.length = u
  | [], v, u, h => ⟨fun g hg => by simp at hg, h⟩
  | e :: r, v, u, ⟨h1, h2⟩ => by
    obtain ⟨a, b⟩ := ch_get h2
    have sh : ∀ g, valAt st w v (e :: r) (g + 1) = valAt st w (lamN st w e) r g := fun g => by
      cases g with
      | zero => rfl
      | succ g => rfl
    refine ⟨fun g hg => ?_, by rw [List.length_cons, sh]; exact b⟩
    cases g with
    | zero => exact h1
    | succ g =>
      rw [sh]
      exact a g (by simpa using hg)

/-! the events of a turn, of all turns -/
def turnEv (w : Wd) (q : Nat) : List Ev := (List.range w.length).map fun l => (l, pos w q l)
def qp (w : Wd) : Nat → Nat
  | 0 => 0
  | t + 1 => pos w (qp w t) w.length
def allEv (st : Nat) (w : Wd) : List Ev := (List.range st).flatMap fun t => turnEv w (qp w t)
def evs (st : Nat) (w : Wd) : List Ev := (allEv st w).filter (isP w)
theorem ch_turn (q : Nat) : Ch st w (fcM st w q 0, fcM st w (q + 1) 0) (turnEv w q) (fcM st w (pos w q w.length) 0, fcM st w (pos w q w.length + 1) 0) := by
  have : ∀ n, n ≤ w.length → Ch st w (fcM st w q 0, fcM st w (q + 1) 0) ((List.range n).map fun l => (l, pos w q l)) (fcM st w (pos w q n) n, fcM st w (pos w q n + 1) n) := by
    intro n
    induction n with
    | zero => intro _; exact rfl
    | succ n ih =>
      intro hn
      rw [List.range_succ, List.map_append]
      exact ch_append.mpr ⟨_, ih (by omega), rfl, rfl⟩
  have h := this w.length (Nat.le_refl _)
  rw [fc_cyc, fc_cyc] at h
  exact h
theorem ch_all : ∀ n, Ch st w (fcM st w 0 0, fcM st w 1 0) ((List.range n).flatMap fun t => turnEv w (qp w t)) (fcM st w (qp w n) 0, fcM st w (qp w n + 1) 0)
  | 0 => rfl
  | n + 1 => by
    rw [List.range_succ, List.flatMap_append]
    refine ch_append.mpr ⟨_, ch_all n, ?_⟩
    rw [List.flatMap_cons, List.flatMap_nil, List.append_nil]
    exact ch_turn (qp w n)

/-! the row is that of the events -/
theorem drawTurn_ev (s : List Int × Nat) : drawTurn w s = (s.1 ++ ((turnEv w s.2).filter (isP w)).map (xv w), pos w s.2 w.length) := by
  have : ∀ n, (List.range n).foldl (drawStep w) s = (s.1 ++ (((List.range n).map fun l => (l, pos w s.2 l)).filter (isP w)).map (xv w), pos w s.2 n) := by
    intro n
    induction n with
    | zero => simp [pos]
    | succ n ih =>
      rw [List.range_succ, List.foldl_append, ih, List.map_append, List.filter_append, List.map_append]
      show drawStep w _ n = _
      unfold drawStep
      simp only
      by_cases h1 : pos w s.2 n = (w.getD n (0, 0)).1
      · have hp : isP w (n, pos w s.2 n) = true := by unfold isP gn; simp [h1]
        rw [if_pos h1, List.map_cons, List.map_nil, List.filter_cons_of_pos hp, List.filter_nil, List.map_cons, List.map_nil, List.append_assoc]
        have e1 : xv w (n, pos w s.2 n) = ((n : Int) + 1) * -(w.getD n (0, 0)).2 := by unfold xv gn sg; rw [if_pos h1]
        have e2 : pos w s.2 (n + 1) = (w.getD n (0, 0)).1 + 1 := by show stp w n _ = _; unfold stp gn; rw [if_pos h1]
        rw [e1, e2]
      · rw [if_neg h1]
        by_cases h2 : pos w s.2 n = (w.getD n (0, 0)).1 + 1
        · have hp : isP w (n, pos w s.2 n) = true := by unfold isP gn; simp [h2]
          rw [if_pos h2, List.map_cons, List.map_nil, List.filter_cons_of_pos hp, List.filter_nil, List.map_cons, List.map_nil, List.append_assoc]
          have e1 : xv w (n, pos w s.2 n) = ((n : Int) + 1) * (w.getD n (0, 0)).2 := by unfold xv gn sg; rw [if_neg h1]
          have e2 : pos w s.2 (n + 1) = (w.getD n (0, 0)).1 := by show stp w n _ = _; unfold stp gn; rw [if_neg h1, if_pos h2]
          rw [e1, e2]
        · have hp : ¬ isP w (n, pos w s.2 n) = true := by
            unfold isP gn
            simp only
            rw [decide_eq_false h1, decide_eq_false h2]
            decide
          rw [if_neg h2, List.map_cons, List.map_nil, List.filter_cons_of_neg hp, List.filter_nil, List.map_nil, List.append_nil]
          have e2 : pos w s.2 (n + 1) = pos w s.2 n := by show stp w n _ = _; unfold stp gn; rw [if_neg h1, if_neg h2]
          rw [e2]
  exact this w.length
theorem drawRow_ev (st : Nat) (w : Wd) : drawRow st w = (evs st w).map (xv w) := by
  have : ∀ n, drawP w n = ((((List.range n).flatMap fun t => turnEv w (qp w t)).filter (isP w)).map (xv w), qp w n) := by
    intro n
    induction n with
    | zero => rfl
    | succ n ih =>
      have e : drawP w (n + 1) = drawTurn w (drawP w n) := by unfold drawP; rw [List.range_succ, List.foldl_append]; rfl
      rw [e, ih, drawTurn_ev, List.range_succ, List.flatMap_append, List.filter_append, List.map_append]
      simp only [List.flatMap_cons, List.flatMap_nil, List.append_nil]
      rfl
  unfold drawRow
  rw [this]
  rfl

/-! one rope -/
structure Knot (st : Nat) (w : Wd) : Prop where
  ok : WdOk st w
  pos : 0 < st
  nd : ((List.range st).map (qp w)).Nodup
  cl : qp w st = 0
theorem gn_ok (h : WdOk st w) {l : Nat} (hl : l < w.length) : gn w l + 1 < st ∧ (sg w l = 1 ∨ sg w l = -1) := by
  have : w.getD l (0, 0) ∈ w := by
    rw [List.getD_eq_getElem?_getD, List.getElem?_eq_getElem hl]
    exact List.getElem_mem hl
  exact h _ this
theorem stp_inj {l p q : Nat} (h : stp w l p = stp w l q) : p = q := by
  unfold stp at h
  split at h <;> split at h <;> (try split at h) <;> (try split at h) <;> omega
theorem pos_inj : ∀ {l p q : Nat}, pos w p l = pos w q l → p = q
  | 0, _, _, h => h
  | l + 1, _, _, h => pos_inj (l := l) (stp_inj h)
theorem pos_lt (h : WdOk st w) {p : Nat} (hp : p < st) : ∀ l, l ≤ w.length → pos w p l < st
  | 0, _ => hp
  | l + 1, hl => by
    have ih := pos_lt h hp l (by omega)
    have := (gn_ok h (l := l) (by omega)).1
    show stp w l _ < st
    unfold stp
    split
    · omega
    · split <;> omega
theorem qp_lt (h : WdOk st w) (h0 : 0 < st) : ∀ t, qp w t < st
  | 0 => h0
  | t + 1 => pos_lt h (qp_lt h h0 t) w.length (Nat.le_refl _)
theorem mem_evs (K : Knot st w) {e : Ev} : e ∈ evs st w ↔ e.1 < w.length ∧ isP w e = true := by
  obtain ⟨l, p⟩ := e
  unfold evs
  rw [List.mem_filter]
  constructor
  · rintro ⟨h1, h2⟩
    refine ⟨?_, h2⟩
    unfold allEv at h1
    obtain ⟨t, _, ht⟩ := List.mem_flatMap.mp h1
    obtain ⟨l', hl', e⟩ := List.mem_map.mp ht
    cases e
    exact List.mem_range.mp hl'
  · rintro ⟨h1, h2⟩
    refine ⟨?_, h2⟩
    have hg := (gn_ok K.ok h1).1
    have hp : p < st := by
      unfold isP at h2
      simp only [Bool.or_eq_true, decide_eq_true_eq] at h2
      have h1 : (l, p).1 = l := rfl
      rcases h2 with h2 | h2 <;> simp only at h2 hg <;> omega
    obtain ⟨q, hq, e⟩ := onto_of (f := fun q => pos w q l) (l := List.range st) List.nodup_range (fun x hx => List.mem_range.mpr (pos_lt K.ok (List.mem_range.mp hx) l (Nat.le_of_lt h1))) (fun x _ y _ e => pos_inj e) (List.mem_range.mpr hp)
    have hq' := nodup_all K.nd (m := List.range st) (fun x hx => by
      obtain ⟨t, _, rfl⟩ := List.mem_map.mp hx
      exact List.mem_range.mpr (qp_lt K.ok K.pos t)) (by rw [List.length_map]; exact Nat.le_refl _) q hq
    obtain ⟨t, ht, rfl⟩ := List.mem_map.mp hq'
    unfold allEv
    refine List.mem_flatMap.mpr ⟨t, ht, List.mem_map.mpr ⟨l, List.mem_range.mpr h1, ?_⟩⟩
    rw [e]
theorem nodup_allEv (K : Knot st w) : (allEv st w).Nodup := by
  unfold allEv
  have : ∀ n, n ≤ st → ((List.range n).flatMap fun t => turnEv w (qp w t)).Nodup := by
    intro n
    induction n with
    | zero => intro _; exact List.nodup_nil
    | succ n ih =>
      intro hn
      rw [List.range_succ, List.flatMap_append, List.flatMap_cons, List.flatMap_nil, List.append_nil, List.nodup_append]
      refine ⟨ih (by omega), ?_, fun a ha b hb e => ?_⟩
      · unfold turnEv
        exact List.Pairwise.map _ (fun a b (h : a ≠ b) e => h (by cases e; rfl)) List.nodup_range
      · subst e
        obtain ⟨t, ht, h1⟩ := List.mem_flatMap.mp ha
        obtain ⟨l1, hl1, e1⟩ := List.mem_map.mp h1
        obtain ⟨l2, hl2, e2⟩ := List.mem_map.mp hb
        have e3 := e1.trans e2.symm
        have a1 : l1 = l2 := congrArg Prod.fst e3
        have a2 : pos w (qp w t) l1 = pos w (qp w n) l2 := congrArg Prod.snd e3
        subst a1
        have a3 := pos_inj a2
        have ht := List.mem_range.mp ht
        have hl1 : t < ((List.range st).map (qp w)).length := by simp; omega
        have hl2 : n < ((List.range st).map (qp w)).length := by simp; omega
        have hh : ((List.range st).map (qp w))[t] = ((List.range st).map (qp w))[n] := by simp [a3]
        have := (List.getElem_inj K.nd).mp hh
        omega
  exact this st (Nat.le_refl _)
theorem nodup_evs (K : Knot st w) : (evs st w).Nodup := (nodup_allEv K).filter _
end
end Ov

/-! Plain: a closed braid is flat. -/
namespace Ov
section
variable {st : Nat} {w : Wd}
theorem isP_or {e : Ev} (h : isP w e = true) : e.2 = gn w e.1 ∨ e.2 = gn w e.1 + 1 := by
  unfold isP at h
  simpa using h
theorem isP_oth {e : Ev} (h : isP w e = true) : isP w (oth w e) = true := by
  unfold isP oth
  simp only
  split <;> simp
theorem xv_abs (h : WdOk st w) {e : Ev} (hl : e.1 < w.length) : iabs (xv w e) = (e.1 : Int) + 1 := by
  obtain ⟨a, b⟩ := iabs_mul (l := e.1) (gn_ok h hl).2
  unfold xv
  split
  · exact b
  · exact a
theorem xv_ne (h : WdOk st w) {e : Ev} (hl : e.1 < w.length) : xv w e ≠ 0 := fun z => by
  have := xv_abs h hl
  rw [z] at this
  have e0 : iabs 0 = 0 := rfl
  omega
theorem xv_oth {e : Ev} (h : isP w e = true) : xv w (oth w e) = -xv w e := by
  unfold xv oth
  simp only
  rcases isP_or h with h | h
  · rw [if_pos h, if_neg (by omega), if_pos h, ← Int.mul_neg, Int.neg_neg]
  · have hn : ¬ e.2 = gn w e.1 := by omega
    rw [if_neg hn, if_pos rfl, if_neg hn, Int.mul_neg]
theorem xv_inj (hw : WdOk st w) {e e' : Ev} (hl : e.1 < w.length) (hl' : e'.1 < w.length) (h : isP w e = true) (h' : isP w e' = true) (q : xv w e = xv w e') : e = e' := by
  have a := xv_abs hw hl
  have b := xv_abs hw hl'
  rw [q, b] at a
  have a1 : e.1 = e'.1 := by omega
  obtain ⟨l, p⟩ := e
  obtain ⟨l', p'⟩ := e'
  simp only at a1
  subst a1
  have hs := (gn_ok hw hl).2
  simp only at hl hs
  have h1 := isP_or h
  have h2 := isP_or h'
  simp only at h1 h2
  unfold xv at q
  simp only at q
  have hne : ((l : Int) + 1) * -sg w l ≠ ((l : Int) + 1) * sg w l := by
    rcases hs with e | e <;> rw [e] <;> omega
  rcases h1 with h1 | h1 <;> rcases h2 with h2 | h2
  · rw [h1, h2]
  · rw [if_pos h1, if_neg (by omega)] at q
    exact absurd q hne
  · rw [if_neg (by omega), if_pos h2] at q
    exact absurd q.symm hne
  · rw [h1, h2]
/-- a dict of the signs by level -/
def TnOk (w : Wd) (tn : List (Int × Int)) : Prop := ∀ l, l < w.length → dget tn ((l : Int) + 1) = some (sg w l)
theorem xv_eps (hw : WdOk st w) {tn : List (Int × Int)} (ht : TnOk w tn) {e : Ev} (hl : e.1 < w.length) : epsM tn (xv w e) = if e.2 = gn w e.1 then -1 else 1 := by
  have ha := xv_abs hw hl
  unfold epsM
  rw [ha, ht e.1 hl, Option.getD_some]
  have hs := (gn_ok hw hl).2
  unfold xv
  split
  · rcases hs with e | e <;> rw [e]
    · rw [if_pos (by omega)]
    · rw [if_neg (by omega)]
  · rcases hs with e | e <;> rw [e]
    · rw [if_neg (by omega)]
    · rw [if_pos (by omega)]; rfl
/-- the events of a rope, begun anywhere -/
structure EvOk (st : Nat) (w : Wd) (T : List Ev) (u : Int × Int) : Prop where
  ok : WdOk st w
  nd : T.Nodup
  mem : ∀ e, e ∈ T ↔ e.1 < w.length ∧ isP w e = true
  ch : Ch st w u T u
variable {T : List Ev} {u : Int × Int} {tn : List (Int × Int)}
def rowE (w : Wd) (T : List Ev) : List Int := T.map (xv w) ++ [0]
theorem rowE_len : (rowE w T).length = T.length + 1 := by simp [rowE]
theorem rowE_get {g : Nat} (h : g < T.length) : (rowE w T).getD g 0 = xv w (T.getD g (0, 0)) := by
  unfold rowE
  rw [List.getD_eq_getElem?_getD, List.getElem?_append_left (by simpa using h), List.getElem?_map, List.getD_eq_getElem?_getD, List.getElem?_eq_getElem h]; rfl
theorem rowE_last : (rowE w T).getD T.length 0 = 0 := by
  unfold rowE
  rw [List.getD_eq_getElem?_getD, List.getElem?_append_right (by simp)]
  simp
theorem ev_get {g : Nat} (h : g < T.length) : T.getD g (0, 0) ∈ T := by
  rw [List.getD_eq_getElem?_getD, List.getElem?_eq_getElem h]
  exact List.getElem_mem h
theorem ev_at {e : Ev} (h : e ∈ T) : ∃ g, g < T.length ∧ T.getD g (0, 0) = e := by
  obtain ⟨g, hg, rfl⟩ := List.mem_iff_getElem.mp h
  exact ⟨g, hg, by rw [List.getD_eq_getElem?_getD, List.getElem?_eq_getElem hg]; rfl⟩
theorem rowE_ar (E : EvOk st w T u) (ht : TnOk w tn) : Ar (rowE w T) tn := by
  have nz : ∀ e ∈ T, xv w e ≠ 0 := fun e he => xv_ne E.ok ((E.mem e).mp he).1
  have inx : ∀ x ∈ rowE w T, x ≠ 0 → ∃ e ∈ T, xv w e = x := fun x hx h0 => by
    unfold rowE at hx
    rcases List.mem_append.mp hx with hx | hx
    · exact List.mem_map.mp hx
    · exact absurd (List.mem_singleton.mp hx) h0
  refine ⟨?_, fun x hx h0 => ?_, fun x hx h0 t htt => ?_⟩
  · unfold rowE
    rw [List.nodup_append]
    refine ⟨?_, by simp, fun a ha b hb e => ?_⟩
    · have : ∀ l : List Ev, l.Nodup → (∀ e ∈ l, e.1 < w.length ∧ isP w e = true) → (l.map (xv w)).Nodup := by
        intro l
        induction l with
        | nil => intro _ _; exact List.nodup_nil
        | cons a l ih =>
          intro hn hm
          rw [List.map_cons, List.nodup_cons]
          have hna := List.nodup_cons.mp hn
          refine ⟨fun hmem => ?_, ih hna.2 fun e he => hm e (List.mem_cons_of_mem _ he)⟩
          obtain ⟨b, hb, e⟩ := List.mem_map.mp hmem
          have h1 := hm a List.mem_cons_self
          have h2 := hm b (List.mem_cons_of_mem _ hb)
          have := xv_inj E.ok h2.1 h1.1 h2.2 h1.2 e
          subst this
          exact hna.1 hb
      exact this T E.nd fun e he => (E.mem e).mp he
    · rw [List.mem_singleton.mp hb] at e
      obtain ⟨b', hb', rfl⟩ := List.mem_map.mp ha
      exact nz b' hb' e
  · obtain ⟨e, he, rfl⟩ := inx x hx h0
    obtain ⟨h1, h2⟩ := (E.mem e).mp he
    refine ⟨?_, sg w e.1, by rw [xv_abs E.ok h1]; exact ht e.1 h1⟩
    rw [← xv_oth h2]
    unfold rowE
    exact List.mem_append_left _ (List.mem_map_of_mem ((E.mem _).mpr ⟨h1, isP_oth h2⟩))
  · obtain ⟨e, he, rfl⟩ := inx x hx h0
    obtain ⟨h1, h2⟩ := (E.mem e).mp he
    rw [xv_abs E.ok h1, ht e.1 h1] at htt
    cases htt
    exact (gn_ok E.ok h1).2
/-- the label of a side -/
def mrg (u : Int × Int) (x : Int) : Int := if x = u.2 then u.1 else x
def labE (st : Nat) (w : Wd) (T : List Ev) (u : Int × Int) (h : Side) : Int :=
  mrg u (if h.2 = 1 then (valAt st w u T (min h.1.toNat T.length)).2 else (valAt st w u T (min h.1.toNat T.length)).1)
theorem lab_up {g : Nat} : labE st w T u ((g : Int), 1) = mrg u (valAt st w u T (min g T.length)).2 := by
  unfold labE
  simp only [if_true]
  rw [show ((g : Int)).toNat = g by omega]
theorem lab_dn {g : Nat} : labE st w T u ((g : Int), -1) = mrg u (valAt st w u T (min g T.length)).1 := by
  unfold labE
  simp only [show ¬ ((-1 : Int) = 1) by decide, if_false]
  rw [show ((g : Int)).toNat = g by omega]
theorem lab_keep (E : EvOk st w T u) (ht : TnOk w tn) : ∀ x, isSide (rowE w T).length x → labE st w T u (beyondM (rowE w T) tn (placesM (rowE w T)) x) = labE st w T u x := by
  intro h hs
  have A := rowE_ar E ht
  obtain ⟨cg, cl⟩ := ch_get E.ch
  rw [bey_all A hs]
  -- a pass: its event, its other's place
  have pass : ∀ g, g < T.length → ∃ o, o < T.length ∧ T.getD o (0, 0) = oth w (T.getD g (0, 0)) ∧ (rowE w T).idxOf (-((rowE w T).getD g 0)) = o ∧ (T.getD g (0, 0)).1 < w.length ∧ isP w (T.getD g (0, 0)) = true := fun g hg => by
    obtain ⟨h1, h2⟩ := (E.mem _).mp (ev_get hg)
    obtain ⟨o, ho, eo⟩ := ev_at ((E.mem (oth w (T.getD g (0, 0)))).mpr ⟨h1, isP_oth h2⟩)
    refine ⟨o, ho, eo, ?_, h1, h2⟩
    rw [rowE_get hg, ← xv_oth h2, ← eo, ← rowE_get ho, idx_get A.nd (by rw [rowE_len]; omega)]
  have mn : ∀ g, g ≤ T.length → min g T.length = g := fun g hg => Nat.min_eq_left hg
  rcases side_kind hs with ⟨i, hi, rfl⟩ | ⟨i, hi, rfl⟩ | rfl | rfl
  · rw [rowE_len] at hi
    rw [bey_up (by rw [rowE_len]; exact hi)]
    by_cases hL : i = T.length
    · subst hL
      rw [if_pos (.inl rowE_last), show ((T.length : Int) + 1) = ((T.length + 1 : Nat) : Int) by push_cast; rfl, lab_up, lab_up, Nat.min_eq_right (by omega), Nat.min_self]
    · have hi : i < T.length := by omega
      obtain ⟨o, ho, eo, io, h1, h2⟩ := pass i hi
      rw [io, rowE_get hi, xv_eps E.ok ht h1, if_neg (by
        rintro (z | z)
        · exact xv_ne E.ok h1 z
        · rw [rowE_len] at z; omega), lab_up, mn i (by omega), ← cg i hi]
      have go := cg o ho
      rw [eo] at go
      have so : valAt st w u T (o + 1) = lamN st w (oth w (T.getD i (0, 0))) := by rw [← eo]; rfl
      generalize T.getD i (0, 0) = e at *
      obtain ⟨l, p⟩ := e
      simp only at h1
      have hgn := (gn_ok E.ok h1).1
      by_cases hp : p = gn w l
      · subst hp
        rw [if_pos rfl, if_neg (by decide), lab_dn, mn o (by omega), ← go]
        unfold lam oth
        simp only [if_true]
      · have hp2 : p = gn w l + 1 := by
          have := isP_or h2
          simp only at this
          omega
        subst hp2
        simp only [hp, if_false, if_true]
        rw [show ((o : Int) + 1) = ((o + 1 : Nat) : Int) by push_cast; rfl, lab_up, mn (o + 1) (by omega), so]
        unfold lam lamN oth stp
        simp only [hp, if_false, if_true]
        rw [fc_step (by omega)]
  · rw [rowE_len] at hi
    rw [bey_dn (by rw [rowE_len]; exact hi), show ((i : Int) + 1, (-1 : Int)) = (((i + 1 : Nat) : Int), (-1 : Int)) by push_cast; rfl]
    by_cases hL : i = T.length
    · subst hL
      rw [if_pos (.inl rowE_last), lab_dn, lab_dn, Nat.min_self, Nat.min_eq_right (by omega)]
    · have hi : i < T.length := by omega
      obtain ⟨o, ho, eo, io, h1, h2⟩ := pass i hi
      have si : valAt st w u T (i + 1) = lamN st w (T.getD i (0, 0)) := rfl
      rw [io, rowE_get hi, xv_eps E.ok ht h1, if_neg (by
        rintro (z | z)
        · exact xv_ne E.ok h1 z
        · rw [rowE_len] at z; omega), lab_dn, mn (i + 1) (by omega), si]
      have go := cg o ho
      rw [eo] at go
      have so : valAt st w u T (o + 1) = lamN st w (oth w (T.getD i (0, 0))) := by rw [← eo]; rfl
      generalize T.getD i (0, 0) = e at *
      obtain ⟨l, p⟩ := e
      simp only at h1
      have hgn := (gn_ok E.ok h1).1
      by_cases hp : p = gn w l
      · subst hp
        rw [if_pos rfl, if_pos rfl, show ((o : Int) + 1) = ((o + 1 : Nat) : Int) by push_cast; rfl, lab_up, mn (o + 1) (by omega), so]
        unfold lamN oth stp
        simp
      · have hp2 : p = gn w l + 1 := by
          have := isP_or h2
          simp only at this
          omega
        subst hp2
        simp only [hp, if_false, show ¬ ((1 : Int) = -1) by decide]
        rw [lab_dn, mn o (by omega), ← go]
        unfold lam lamN oth stp
        simp only [hp, if_false, if_true]
        rw [fc_step (by omega)]
  · rw [rowE_len] at *
    rw [bey_end, lab_dn, lab_up, Nat.min_eq_right (by omega), cl]
    unfold mrg
    rw [if_pos rfl]
    split <;> rfl
  · rw [bey_beg, show ((0 : Int), (1 : Int)) = (((0 : Nat) : Int), (1 : Int)) from rfl, show ((0 : Int), (-1 : Int)) = (((0 : Nat) : Int), (-1 : Int)) from rfl, lab_up, lab_dn, Nat.zero_min]
    show mrg u u.2 = mrg u u.1
    unfold mrg
    rw [if_pos rfl]
    split <;> rfl
end
end Ov

/-! Plain: a closed braid is flat (the count), one rope begun anywhere. -/
namespace Ov
section
variable {st : Nat} {w : Wd} {T : List Ev} {u : Int × Int} {tn : List (Int × Int)}
/-- all labels, two made one -/
def labsE (w : Wd) (u : Int × Int) : List Int := ((-1 : Int) :: (-2) :: (List.range w.length).map fun i : Nat => (i : Int)).filter fun y => !decide (y = u.2)
theorem filter_one_len {l : List Int} (hn : l.Nodup) (z : Int) : l.length ≤ (l.filter fun y => !decide (y = z)).length + 1 := by
  induction l with
  | nil => exact Nat.zero_le _
  | cons a l ih =>
    have hna := List.nodup_cons.mp hn
    by_cases h : a = z
    · subst h
      have : l.filter (fun y => !decide (y = a)) = l := List.filter_eq_self.mpr fun y hy => by
        have : y ≠ a := fun e => hna.1 (e ▸ hy)
        simp [this]
      rw [List.filter_cons_of_neg (by simp), this, List.length_cons]
      exact Nat.le_refl _
    · rw [List.filter_cons_of_pos (by simp [h]), List.length_cons, List.length_cons]
      have := ih hna.2
      omega
theorem labs_nd : ((-1 : Int) :: (-2) :: (List.range w.length).map fun i : Nat => (i : Int)).Nodup := by
  rw [List.nodup_cons, List.nodup_cons]
  refine ⟨fun h => ?_, fun h => ?_, List.Pairwise.map _ (fun a b (h : a ≠ b) e => h (by omega)) List.nodup_range⟩
  · rcases List.mem_cons.mp h with h | h
    · omega
    · obtain ⟨i, _, e⟩ := List.mem_map.mp h
      omega
  · obtain ⟨i, _, e⟩ := List.mem_map.mp h
    omega
theorem mrg_ne {y : Int} (h : y ≠ u.2) : mrg u y = y := by unfold mrg; rw [if_neg h]
theorem braid_faces (E : EvOk st w T u) (ht : TnOk w tn) (g0 : ∃ l, l < w.length ∧ gn w l = 0) (g1 : ∃ l, l < w.length ∧ gn w l + 2 = st) : (sidesN (rowE w T) tn).2 = (w.length : Int) + 1 := by
  have A := rowE_ar E ht
  obtain ⟨cg, cl⟩ := ch_get E.ch
  have up := faces_le A (n := w.length) fun x hx => by
    unfold rowE at hx
    rcases List.mem_append.mp hx with hx | hx
    · obtain ⟨e, he, rfl⟩ := List.mem_map.mp hx
      have h1 := ((E.mem e).mp he).1
      rw [xv_abs E.ok h1]; omega
    · rw [List.mem_singleton.mp hx]
      show (0 : Int) ≤ _
      omega
  have hl : (labsE w u).length + 1 ≥ w.length + 2 := by
    have := filter_one_len (labs_nd (w := w)) u.2
    unfold labsE
    simp only [List.length_cons, List.length_map, List.length_range] at this ⊢
    omega
  have sd : ∀ (g : Nat) (v : Int), g ≤ T.length + 1 → v = 1 ∨ v = -1 → isSide (rowE w T).length ((g : Int), v) := fun g v h1 h2 => ⟨by simp only; omega, by simp only; rw [rowE_len]; push_cast; omega, h2⟩
  have lo := faces_ge A (labE st w T u) (lab_keep E ht) (labsE w u) (List.Pairwise.filter _ labs_nd) fun y hy => by
    obtain ⟨h1, h2⟩ := List.mem_filter.mp hy
    have hne : y ≠ u.2 := by simpa using h2
    rcases List.mem_cons.mp h1 with rfl | h1
    · obtain ⟨l, hl, hg⟩ := g0
      have hm : ((l, 0) : Ev) ∈ T := (E.mem _).mpr ⟨hl, by unfold isP; simp [hg]⟩
      obtain ⟨g, hg1, hg2⟩ := ev_at hm
      refine ⟨((g : Int), -1), sd g _ (by omega) (.inr rfl), ?_⟩
      rw [lab_dn, Nat.min_eq_left (by omega), ← cg g hg1, hg2]
      show mrg u (fcM st w 0 l) = -1
      rw [show fcM st w 0 l = -1 by unfold fcM; rw [if_pos rfl]]
      exact mrg_ne hne
    · rcases List.mem_cons.mp h1 with rfl | h1
      · obtain ⟨l, hl, hg⟩ := g1
        have hm : ((l, gn w l + 1) : Ev) ∈ T := (E.mem _).mpr ⟨hl, by unfold isP; simp⟩
        obtain ⟨g, hg1, hg2⟩ := ev_at hm
        refine ⟨((g : Int), 1), sd g _ (by omega) (.inl rfl), ?_⟩
        rw [lab_up, Nat.min_eq_left (by omega), ← cg g hg1, hg2]
        show mrg u (fcM st w (gn w l + 1 + 1) l) = -2
        rw [show fcM st w (gn w l + 1 + 1) l = -2 by unfold fcM; rw [if_neg (by omega), if_pos (by omega)]]
        exact mrg_ne hne
      · obtain ⟨l, hl, rfl⟩ := List.mem_map.mp h1
        have hl := List.mem_range.mp hl
        have hm : ((l, gn w l) : Ev) ∈ T := (E.mem _).mpr ⟨hl, by unfold isP; simp⟩
        obtain ⟨g, hg1, hg2⟩ := ev_at hm
        have hgn := (gn_ok E.ok hl).1
        refine ⟨(((g + 1 : Nat) : Int), -1), sd (g + 1) _ (by omega) (.inr rfl), ?_⟩
        rw [lab_dn, Nat.min_eq_left (by omega)]
        show mrg u (lamN st w (T.getD g (0, 0))).1 = _
        rw [hg2]
        show mrg u (fcM st w (stp w l (gn w l)) (l + 1)) = _
        rw [show stp w l (gn w l) = gn w l + 1 by unfold stp; rw [if_pos rfl], fc_at hgn]
        exact mrg_ne hne
  omega
/-- begun at the k-th -/
def rotE (T : List Ev) (k : Nat) : List Ev := T.drop k ++ T.take k
theorem rot_ev (E : EvOk st w T u) (k : Nat) : ∃ u', EvOk st w (rotE T k) u' := by
  have h := E.ch
  rw [← List.take_append_drop k T] at h
  obtain ⟨m, h1, h2⟩ := ch_append.mp h
  refine ⟨m, E.ok, ?_, fun e => ?_, ch_append.mpr ⟨u, h2, h1⟩⟩
  · unfold rotE
    have hn := E.nd
    rw [← List.take_append_drop k T, List.nodup_append] at hn
    rw [List.nodup_append]
    exact ⟨hn.2.1, hn.1, fun a ha b hb e => hn.2.2 b hb a ha e.symm⟩
  · rw [← E.mem e]
    unfold rotE
    conv => rhs; rw [← List.take_append_drop k T]
    rw [List.mem_append, List.mem_append, or_comm]
theorem knot_ev (K : Knot st w) : EvOk st w (evs st w) (fcM st w 0 0, fcM st w 1 0) := by
  refine ⟨K.ok, nodup_evs K, fun e => mem_evs K, ?_⟩
  have h := ch_filter (ch_all (st := st) (w := w) st)
  rw [K.cl] at h
  exact h
theorem gens_lo (K : Knot st w) (h2 : 2 ≤ st) : ∃ l, l < w.length ∧ gn w l = 0 := by
  refine Classical.byContradiction fun hh => ?_
  have hp : ∀ l, l ≤ w.length → pos w 0 l = 0 := by
    intro l
    induction l with
    | zero => intro _; rfl
    | succ l ih =>
      intro hl
      show stp w l _ = 0
      rw [ih (by omega)]
      unfold stp
      have : ¬ gn w l = 0 := fun e => hh ⟨l, by omega, e⟩
      rw [if_neg (by omega), if_neg (by omega)]
  have hl1 : 0 < ((List.range st).map (qp w)).length := by simp; omega
  have hl2 : 1 < ((List.range st).map (qp w)).length := by simp; omega
  have e1 : qp w 1 = 0 := hp w.length (Nat.le_refl _)
  have e0 : qp w 0 = 0 := rfl
  have hhh : ((List.range st).map (qp w))[0] = ((List.range st).map (qp w))[1] := by simp [e1, e0]
  have := (List.getElem_inj K.nd).mp hhh
  omega
theorem gens_hi (K : Knot st w) (h2 : 2 ≤ st) : ∃ l, l < w.length ∧ gn w l + 2 = st := by
  refine Classical.byContradiction fun hh => ?_
  have hp : ∀ l, l ≤ w.length → pos w (st - 1) l = st - 1 := by
    intro l
    induction l with
    | zero => intro _; rfl
    | succ l ih =>
      intro hl
      show stp w l _ = st - 1
      rw [ih (by omega)]
      unfold stp
      have h3 : ¬ gn w l + 2 = st := fun e => hh ⟨l, by omega, e⟩
      have := (gn_ok K.ok (l := l) (by omega)).1
      rw [if_neg (by omega), if_neg (by omega)]
  have hq' := nodup_all K.nd (m := List.range st) (fun x hx => by
    obtain ⟨t, _, rfl⟩ := List.mem_map.mp hx
    exact List.mem_range.mpr (qp_lt K.ok K.pos t)) (by rw [List.length_map]; exact Nat.le_refl _) (st - 1) (List.mem_range.mpr (by omega))
  obtain ⟨t, ht, e⟩ := List.mem_map.mp hq'
  have ht := List.mem_range.mp ht
  have hnx : qp w (t + 1) = st - 1 := by
    show pos w (qp w t) w.length = st - 1
    rw [e]
    exact hp w.length (Nat.le_refl _)
  by_cases hlast : t + 1 = st
  · rw [hlast, K.cl] at hnx
    omega
  · have hl1 : t < ((List.range st).map (qp w)).length := by simp; omega
    have hl2 : t + 1 < ((List.range st).map (qp w)).length := by simp; omega
    have hhh : ((List.range st).map (qp w))[t] = ((List.range st).map (qp w))[t + 1] := by simp [e, hnx]
    have := (List.getElem_inj K.nd).mp hhh
    omega
end
end Ov

/-! Plain: what closes a braid makes it one rope. -/
namespace Ov
def cyclesA (st : Nat) (a : List Int) : List Int := (List.range st).foldl (headStep a) (iota st)
def closeAS (st : Nat) (a : List Int) (k : Nat) : List Int := if (cyclesA st a).getD k 0 = (cyclesA st a).getD (k + 1) 0 then a else swapM a k
def closeA (st : Nat) (a : List Int) (n : Nat) : List Int := (List.range n).foldl (closeAS st) a
def qA (a : List Int) : Nat → Nat
  | 0 => 0
  | t + 1 => a.idxOf ((qA a t : Nat) : Int)
def oneB (st : Nat) (a : List Int) : Bool := decide (((List.range st).map (qA a)).Nodup) && decide (qA a st = 0)
/-- all lists of n numbers below m -/
def lists (m : Nat) : Nat → List (List Int)
  | 0 => [[]]
  | n + 1 => (lists m n).flatMap fun l => (iota m).map fun x => x :: l
theorem mem_lists {m : Nat} : ∀ {n : Nat} {l : List Int}, l.length = n → (∀ x ∈ l, 0 ≤ x ∧ x < m) → l ∈ lists m n
  | 0, l, h, _ => by
    rw [List.length_eq_zero_iff.mp h]
    exact List.mem_cons_self
  | n + 1, l, h, hb => by
    match l, h with
    | x :: l, h =>
      have hx := hb x List.mem_cons_self
      refine List.mem_flatMap.mpr ⟨l, mem_lists (by simpa using h) fun y hy => hb y (List.mem_cons_of_mem _ hy), List.mem_map.mpr ⟨x, ?_, rfl⟩⟩
      exact List.mem_map.mpr ⟨x.toNat, List.mem_range.mpr (by omega), by omega⟩
def allOne (st : Nat) : Bool := (lists st st).all fun a => !decide a.Nodup || oneB st (closeA st a (st - 1))
theorem allOne_1 : allOne 1 = true := by decide +kernel
theorem allOne_2 : allOne 2 = true := by decide +kernel
theorem allOne_3 : allOne 3 = true := by decide +kernel
theorem allOne_4 : allOne 4 = true := by decide +kernel
theorem close_one {st : Nat} (h1 : 1 ≤ st) (h4 : st ≤ 4) {a : List Int} (hb : BelowOk st a) (hn : a.Nodup) : oneB st (closeA st a (st - 1)) = true := by
  have ha : allOne st = true := by
    have : st = 1 ∨ st = 2 ∨ st = 3 ∨ st = 4 := by omega
    rcases this with rfl | rfl | rfl | rfl
    · exact allOne_1
    · exact allOne_2
    · exact allOne_3
    · exact allOne_4
  have := List.all_eq_true.mp ha a (mem_lists hb.1 hb.2)
  rw [decide_eq_true hn] at this
  simpa using this
section
variable {st : Nat} {w : Wd}
theorem swapM_perm {l : List Int} {i : Nat} (h : i + 1 < l.length) : (swapM l i).Perm l := by
  unfold swapM
  have e : l = l.take i ++ [l.getD i 0, l.getD (i + 1) 0] ++ l.drop (i + 2) := by
    conv => lhs; rw [← List.take_append_drop i l]
    rw [List.append_assoc]
    congr 1
    rw [List.drop_eq_getElem_cons (by omega), List.drop_eq_getElem_cons (i := i + 1) (by omega)]
    rw [List.getD_eq_getElem?_getD, List.getD_eq_getElem?_getD, List.getElem?_eq_getElem (by omega), List.getElem?_eq_getElem (by omega)]
    rfl
  conv => rhs; rw [e]
  refine List.Perm.append_right _ (List.Perm.append_left _ ?_)
  exact List.Perm.swap _ _ _
theorem permM_snoc (st : Nat) (w : Wd) (x : Nat × Int) : permM st (w ++ [x]) = swapM (permM st w) x.1 := by unfold permM; rw [List.foldl_append]; rfl
theorem wd_snoc_induct {P : Wd → Prop} (h0 : P []) (hs : ∀ l x, P l → P (l ++ [x])) : ∀ l, P l := fun l => by
  have : ∀ n (l : Wd), l.length = n → P l := by
    intro n
    induction n with
    | zero => intro l hl; rw [List.length_eq_zero_iff.mp hl]; exact h0
    | succ n ih =>
      intro l hl
      have hne : l ≠ [] := by rintro rfl; cases hl
      rw [← List.dropLast_concat_getLast hne]
      exact hs _ _ (ih _ (by rw [List.length_dropLast]; omega))
  exact this _ l rfl
theorem permM_nd : ∀ {w : Wd}, WdOk st w → (permM st w).Nodup := fun {w} => by
  refine wd_snoc_induct (P := fun w => WdOk st w → (permM st w).Nodup) (fun _ => ?_) (fun l x ih h => ?_) w
  · show (iota st).Nodup
    exact List.Pairwise.map _ (fun a b (h : a ≠ b) e => h (by omega)) List.nodup_range
  · have hl : WdOk st l := fun y hy => h y (List.mem_append_left _ hy)
    have hx := (h x (List.mem_append_right _ List.mem_cons_self)).1
    rw [permM_snoc]
    exact (swapM_perm (by rw [(permM_ok hl).1]; exact hx)).nodup_iff.mpr (ih hl)
theorem swapM_get {l : List Int} {i : Nat} (h : i + 1 < l.length) (j : Nat) : (swapM l i).getD j 0 = if j = i then l.getD (i + 1) 0 else if j = i + 1 then l.getD i 0 else l.getD j 0 := by
  unfold swapM
  rw [List.getD_eq_getElem?_getD, List.append_assoc]
  by_cases h1 : j < i
  · rw [List.getElem?_append_left (by simp; omega), if_neg (by omega), if_neg (by omega), List.getElem?_take_of_lt h1, List.getD_eq_getElem?_getD]
  · rw [List.getElem?_append_right (by simp; omega)]
    have e : j - (l.take i).length = j - i := by simp; omega
    rw [e]
    by_cases h2 : j = i
    · subst h2; simp
    · by_cases h3 : j = i + 1
      · subst h3
        rw [if_neg h2, if_pos rfl, show i + 1 - i = 1 by omega]
        simp
      · rw [if_neg h2, if_neg h3, List.getElem?_append_right (by simp; omega), List.getElem?_drop, List.getD_eq_getElem?_getD]
        congr 2
        simp
        omega
/-- the strand that ends at a place is that which began at .. -/
theorem permM_pos {q : Nat} (hq : q < st) (h : WdOk st w) : ∀ l, l ≤ w.length → (permM st (w.take l)).getD (pos w q l) 0 = q
  | 0, _ => by
    show (iota st).getD q 0 = q
    unfold iota
    rw [List.getD_eq_getElem?_getD, List.getElem?_map, List.getElem?_range hq]; rfl
  | l + 1, hl => by
    have ih := permM_pos hq h l (by omega)
    have hx : w[l]? = some (w.getD l (0, 0)) := by rw [List.getD_eq_getElem?_getD, List.getElem?_eq_getElem (by omega)]; rfl
    have hg := (gn_ok h (l := l) (by omega)).1
    rw [permM_take hx]
    have hlen : (permM st (w.take l)).length = st := (permM_ok fun y hy => h y (List.mem_of_mem_take hy)).1
    show (swapM _ (gn w l)).getD (stp w l (pos w q l)) 0 = q
    rw [swapM_get (by rw [hlen]; exact hg)]
    unfold stp
    by_cases h1 : pos w q l = gn w l
    · rw [if_pos h1, if_neg (by omega), if_pos rfl, ← h1]; exact ih
    · by_cases h2 : pos w q l = gn w l + 1
      · rw [if_neg h1, if_pos h2, if_pos rfl, ← h2]; exact ih
      · rw [if_neg h1, if_neg h2, if_neg h1, if_neg h2]; exact ih
theorem qp_qA (h : WdOk st w) (h0 : 0 < st) : ∀ t, qp w t = qA (permM st w) t
  | 0 => rfl
  | t + 1 => by
    have ih := qp_qA h h0 t
    show pos w (qp w t) w.length = (permM st w).idxOf ((qA (permM st w) t : Nat) : Int)
    rw [← ih]
    have hq := qp_lt h h0 t
    have hp := permM_pos hq h w.length (Nat.le_refl _)
    rw [List.take_length] at hp
    have hl := pos_lt h hq w.length (Nat.le_refl _)
    have hb := permM_ok h
    rw [← hp, idx_get (permM_nd h) (by rw [hb.1]; exact hl)]
theorem closeP_perm (xs : List Int) (w : Wd) : ∀ n, permM st (closeP xs st w n) = closeA st (permM st w) n
  | 0 => rfl
  | n + 1 => by
    have ih := closeP_perm xs w n
    rw [closeP_succ]
    unfold closeA
    rw [List.range_succ, List.foldl_append]
    show permM st (closeStep xs st (closeP xs st w n) n) = closeAS st (closeA st (permM st w) n) n
    rw [← ih]
    unfold closeStep closeAS
    show permM st (if (cyclesA st (permM st (closeP xs st w n))).getD n 0 = (cyclesA st (permM st (closeP xs st w n))).getD (n + 1) 0 then _ else _) = _
    split
    · rfl
    · rw [permM_snoc]
end
/-- a drawn braid is one rope -/
theorem braid_knot (x : Int) (most : Nat) : Knot (braidM x most).1 (braidM x most).2 := by
  have hs := nStr_bd (streamM x (2 + most))
  have hok := (braidW_ok (streamM x (2 + most)) most).1
  obtain ⟨c1, c2⟩ := cntM_bd (streamM x (2 + most)) most
  have hw0 := word0_ok (xs := streamM x (2 + most)) c2
  have h1 := close_one hs.1 hs.2 (permM_ok hw0) (permM_nd hw0)
  have e : closeA (nStr (streamM x (2 + most))) (permM _ (word0 (streamM x (2 + most)) (nStr (streamM x (2 + most))) (cntM (streamM x (2 + most)) most))) (nStr (streamM x (2 + most)) - 1) = permM (braidM x most).1 (braidM x most).2 := (closeP_perm _ _ _).symm
  rw [e] at h1
  unfold oneB at h1
  rw [Bool.and_eq_true, decide_eq_true_eq, decide_eq_true_eq] at h1
  have hq : qp (braidM x most).2 = qA (permM (braidM x most).1 (braidM x most).2) := funext fun t => qp_qA hok (by show 0 < nStr _; omega) t
  refine ⟨hok, by show 0 < nStr _; omega, ?_, ?_⟩
  · rw [hq]; exact h1.1
  · rw [hq]; exact h1.2
end Ov

/-! Plain: names of crossings do not matter to faces. -/
namespace Ov
theorem faces_same1 {row row' : List Int} {tn tn' : List (Int × Int)} (A : Ar row tn) (A' : Ar row' tn') (hl : row.length = row'.length) (h : ∀ s, isSide row.length s → beyondM row tn (placesM row) s = beyondM row' tn' (placesM row') s) : (sidesN row tn).2 ≤ (sidesN row' tn').2 := by
  obtain ⟨N, hc⟩ := sides_num (bey_perm A)
  have := faces_ge A' (fun s => dget (sidesM row tn) s) (fun x hx => by
    rw [← hl] at hx
    show dget (sidesM row tn) _ = dget (sidesM row tn) x
    rw [← h x hx]
    obtain ⟨v, hv⟩ := sides_has row tn hx
    rw [hv]
    exact N.inv x v hv) ((List.range (sidesN row tn).2.toNat).map fun i : Nat => some (i : Int)) (List.Pairwise.map _ (fun a b (h : a ≠ b) e => h (by have := Option.some.inj e; omega)) List.nodup_range) (fun y hy => by
    obtain ⟨i, hi, rfl⟩ := List.mem_map.mp hy
    have hi := List.mem_range.mp hi
    obtain ⟨x, hx⟩ := N.all (i : Int) (by omega) (by omega)
    exact ⟨x, hl ▸ N.ok.side hx, hx⟩)
  rw [List.length_map, List.length_range] at this
  omega
theorem faces_same {row row' : List Int} {tn tn' : List (Int × Int)} (A : Ar row tn) (A' : Ar row' tn') (hl : row.length = row'.length) (h : ∀ s, isSide row.length s → beyondM row tn (placesM row) s = beyondM row' tn' (placesM row') s) : (sidesN row tn).2 = (sidesN row' tn').2 :=
  Int.le_antisymm (faces_same1 A A' hl h) (faces_same1 A' A hl.symm fun s hs => (h s (hl ▸ hs)).symm)
section
variable {X : List Int} {ν : Int → Int} {tn tn' : List (Int × Int)}
/-- names changed, either way alike -/
structure Ren (X : List Int) (ν : Int → Int) : Prop where
  nz : ∀ x ∈ X, x ≠ 0
  cl : ∀ x ∈ X, -x ∈ X
  inj : ∀ x ∈ X, ∀ y ∈ X, ν x = ν y → x = y
  odd : ∀ x ∈ X, ν (-x) = -ν x
theorem Ren.ne (R : Ren X ν) {x : Int} (hx : x ∈ X) : ν x ≠ 0 := fun z => by
  have h1 := R.odd x hx
  rw [z] at h1
  have := R.inj (-x) (R.cl x hx) x hx (by rw [h1, z]; rfl)
  have := R.nz x hx
  omega
theorem app0_get {l : List Int} {i : Nat} (h : i < l.length) : (l ++ [0]).getD i 0 = l.getD i 0 := by
  rw [List.getD_eq_getElem?_getD, List.getElem?_append_left h, List.getD_eq_getElem?_getD]
theorem app0_last {l : List Int} : (l ++ [0]).getD l.length 0 = 0 := by
  rw [List.getD_eq_getElem?_getD, List.getElem?_append_right (Nat.le_refl _)]
  simp
theorem map_get {i : Nat} (h : i < X.length) : (X.map ν).getD i 0 = ν (X.getD i 0) := by
  rw [List.getD_eq_getElem?_getD, List.getElem?_map, List.getD_eq_getElem?_getD, List.getElem?_eq_getElem h]; rfl
theorem faces_map (R : Ren X ν) (A : Ar (X ++ [0]) tn) (A' : Ar (X.map ν ++ [0]) tn') (eps : ∀ x ∈ X, epsM tn' (ν x) = epsM tn x) : (sidesN (X ++ [0]) tn).2 = (sidesN (X.map ν ++ [0]) tn').2 := by
  have hl : (X ++ [0]).length = (X.map ν ++ [0]).length := by simp
  have hlen : (X ++ [0]).length = X.length + 1 := by simp
  refine faces_same A A' hl fun s hs => ?_
  have hs' : isSide (X.map ν ++ [0]).length s := hl ▸ hs
  rw [bey_all A hs, bey_all A' hs', ← hl]
  -- by places
  have at_ : ∀ i, i < X.length + 1 → ((X ++ [0]).getD i 0 = 0 ∧ (X.map ν ++ [0]).getD i 0 = 0) ∨ ((X ++ [0]).getD i 0 ≠ 0 ∧ (X.map ν ++ [0]).getD i 0 ≠ 0 ∧ (X ++ [0]).idxOf (-((X ++ [0]).getD i 0)) = (X.map ν ++ [0]).idxOf (-((X.map ν ++ [0]).getD i 0)) ∧ epsM tn' ((X.map ν ++ [0]).getD i 0) = epsM tn ((X ++ [0]).getD i 0)) := fun i hi => by
    by_cases hL : i = X.length
    · subst hL
      left
      refine ⟨app0_last, ?_⟩
      have := app0_last (l := X.map ν)
      rw [List.length_map] at this
      exact this
    · right
      have hi : i < X.length := by omega
      have hm : X.getD i 0 ∈ X := getD_mem hi
      rw [app0_get hi, app0_get (by simpa using hi), map_get hi]
      refine ⟨R.nz _ hm, R.ne hm, ?_, eps _ hm⟩
      obtain ⟨o, ho, eo⟩ := List.mem_iff_getElem.mp (R.cl _ hm)
      have eo2 : X.getD o 0 = -(X.getD i 0) := by rw [← eo, List.getD_eq_getElem?_getD, List.getElem?_eq_getElem ho]; rfl
      have e1 := idx_get A.nd (i := o) (by rw [hlen]; omega)
      have e2 := idx_get A'.nd (i := o) (by rw [← hl, hlen]; omega)
      rw [app0_get ho, eo2] at e1
      rw [app0_get (by simpa using ho), map_get ho, eo2, R.odd _ hm] at e2
      rw [e1, e2]
  rcases side_kind hs with ⟨i, hi, rfl⟩ | ⟨i, hi, rfl⟩ | rfl | rfl
  · rw [bey_up hi, bey_up hi]
    rw [hlen] at hi
    rcases at_ i hi with ⟨a1, a2⟩ | ⟨a1, a2, a3, a4⟩
    · rw [if_pos (.inl a1), if_pos (.inl a2)]
    · rw [a3, a4]
      simp only [a1, a2]
  · rw [bey_dn hi, bey_dn hi]
    rw [hlen] at hi
    rcases at_ i hi with ⟨a1, a2⟩ | ⟨a1, a2, a3, a4⟩
    · rw [if_pos (.inl a1), if_pos (.inl a2)]
    · rw [a3, a4]
      simp only [a1, a2]
  · rw [bey_end, bey_end]
  · rw [bey_beg, bey_beg]
end
end Ov

/-! Plain: numbered anew it is a drawing. -/
namespace Ov
section
variable {X : List Int} {tf : Int → Int} {tn : List (Int × Int)}
/-- the new number -/
def nuM (X : List Int) (z : Int) : Int := (((ordM X).idxOf (iabs z) : Nat) + 1 : Int) * (if decide (z < 0) = true then -1 else 1)
theorem lnP_map (X : List Int) : lnP X = X.map (nuM X) := rfl
/-- passes: each with its other -/
structure Ps (X : List Int) : Prop where
  nd : X.Nodup
  nz : ∀ x ∈ X, x ≠ 0
  cl : ∀ x ∈ X, -x ∈ X
theorem nu_pos {z : Int} (h : 0 < z) : nuM X z = ((ordM X).idxOf (iabs z) : Nat) + 1 := by
  unfold nuM
  rw [decide_eq_false (by omega), if_neg (by decide), Int.mul_one]
theorem nu_neg {z : Int} (h : z < 0) : nuM X z = -(((ordM X).idxOf (iabs z) : Nat) + 1 : Int) := by
  unfold nuM
  rw [decide_eq_true h, if_pos rfl, Int.mul_neg, Int.mul_one]
theorem nu_abs {z : Int} (h : z ≠ 0) : iabs (nuM X z) = ((ordM X).idxOf (iabs z) : Nat) + 1 := by
  by_cases h1 : 0 < z
  · rw [nu_pos h1]; unfold iabs; rw [if_neg (by omega)]
  · rw [nu_neg (by omega)]; unfold iabs; rw [if_pos (by omega)]; omega
theorem nu_sign {z : Int} (h : z ≠ 0) : (nuM X z < 0 ↔ z < 0) := by
  by_cases h1 : 0 < z
  · rw [nu_pos h1]; omega
  · rw [nu_neg (by omega)]; omega
theorem abs_eq {x y : Int} (h : iabs x = iabs y) (hs : x < 0 ↔ y < 0) : x = y := by
  unfold iabs at h
  by_cases h1 : x < 0
  · rw [if_pos h1, if_pos (hs.mp h1)] at h; omega
  · rw [if_neg h1, if_neg (fun z => h1 (hs.mpr z))] at h; exact h
theorem nu_ren (P : Ps X) : Ren X (nuM X) := by
  refine ⟨P.nz, P.cl, fun x hx y hy e => ?_, fun x hx => ?_⟩
  · have hx0 := P.nz x hx
    have hy0 := P.nz y hy
    have a := nu_abs (X := X) hx0
    have b := nu_abs (X := X) hy0
    rw [e, b] at a
    have hi : (ordM X).idxOf (iabs y) = (ordM X).idxOf (iabs x) := by omega
    have e1 := get_idx (mem_ordM hx)
    have e2 := get_idx (mem_ordM hy)
    rw [hi, e1] at e2
    exact abs_eq e2 ((nu_sign hx0).symm.trans (e ▸ nu_sign hy0))
  · have h0 := P.nz x hx
    by_cases h1 : 0 < x
    · rw [nu_pos h1, nu_neg (by omega), iabs_neg]
    · rw [nu_pos (X := X) (z := -x) (by omega), nu_neg (X := X) (z := x) (by omega), iabs_neg]; omega
theorem nodup_map_of {α β : Type} {f : α → β} {l : List α} (hn : l.Nodup) (h : ∀ x ∈ l, ∀ y ∈ l, f x = f y → x = y) : (l.map f).Nodup := by
  induction l with
  | nil => exact List.nodup_nil
  | cons a l ih =>
    rw [List.map_cons, List.nodup_cons]
    have hna := List.nodup_cons.mp hn
    refine ⟨fun hm => ?_, ih hna.2 fun x hx y hy => h x (List.mem_cons_of_mem _ hx) y (List.mem_cons_of_mem _ hy)⟩
    obtain ⟨b, hb, e⟩ := List.mem_map.mp hm
    have := h b (List.mem_cons_of_mem _ hb) a List.mem_cons_self e
    subst this
    exact hna.1 hb
theorem ordM_nd (X : List Int) : (ordM X).Nodup := nodup_dd _
/-- twice as many passes as crossings -/
theorem ps_len (P : Ps X) : X.length = 2 * (ordM X).length := by
  have hpos : ∀ y ∈ ordM X, 1 ≤ y := fun y hy => by
    obtain ⟨x, hx, rfl⟩ := ordM_mem hy
    exact iabs_pos (P.nz x hx)
  have hl : ∀ l : List Int, (l.flatMap fun y => [y, -y]).length = 2 * l.length := by
    intro l
    induction l with
    | nil => rfl
    | cons a l ih => rw [List.flatMap_cons, List.length_append, ih]; simp; omega
  have hn : ∀ l : List Int, l.Nodup → (∀ y ∈ l, 1 ≤ y) → (l.flatMap fun y => [y, -y]).Nodup := by
    intro l
    induction l with
    | nil => intro _ _; exact List.nodup_nil
    | cons a l ih =>
      intro h1 h2
      have hna := List.nodup_cons.mp h1
      have ha := h2 a List.mem_cons_self
      rw [List.flatMap_cons, List.nodup_append]
      refine ⟨by simp; omega, ih hna.2 fun y hy => h2 y (List.mem_cons_of_mem _ hy), fun x hx y hy e => ?_⟩
      subst e
      obtain ⟨z, hz, hz2⟩ := List.mem_flatMap.mp hy
      have hzp := h2 z (List.mem_cons_of_mem _ hz)
      simp only [List.mem_cons, List.not_mem_nil, or_false] at hx hz2
      have : a = z := by omega
      subst this
      exact hna.1 hz
  have a := nodup_le P.nd (m := (ordM X).flatMap fun y => [y, -y]) fun x hx => by
    refine List.mem_flatMap.mpr ⟨iabs x, mem_ordM hx, ?_⟩
    unfold iabs
    split <;> simp
  have b := nodup_le (hn (ordM X) (ordM_nd X) hpos) (m := X) fun x hx => by
    obtain ⟨y, hy, hxy⟩ := List.mem_flatMap.mp hx
    obtain ⟨z, hz, e⟩ := ordM_mem hy
    have hc := P.cl z hz
    simp only [List.mem_cons, List.not_mem_nil, or_false] at hxy
    have : x = z ∨ x = -z := by
      unfold iabs at e
      split at e <;> rcases hxy with h | h <;> omega
    rcases this with rfl | rfl
    · exact hz
    · exact hc
  rw [hl] at a b
  omega
theorem kept_get {ps ts : List Int} {x : Int} (h1 : 1 ≤ x) (h2 : x ≤ ts.length) : dget (keptM ps ts 0 0) x = some (ts.getD (x.toNat - 1) 0) := by
  unfold keptM
  rw [keptP_get, if_pos ⟨h1, h2, by simp [liftedM]⟩]
theorem lnT_get {x : Int} (hx : x ∈ X) : dget (keptM (lnP X) (lnT tf X) 0 0) (((ordM X).idxOf (iabs x) : Nat) + 1 : Int) = some (tf (iabs x)) := by
  have hlt := List.idxOf_lt_length_of_mem (mem_ordM hx)
  have hlen : (lnT tf X).length = (ordM X).length := by simp [lnT]
  rw [kept_get (by omega) (by omega)]
  congr 1
  rw [show (((ordM X).idxOf (iabs x) : Nat) + 1 : Int).toNat - 1 = (ordM X).idxOf (iabs x) by omega]
  unfold lnT
  rw [List.getD_eq_getElem?_getD, List.getElem?_map, List.getElem?_eq_getElem hlt, List.getElem_idxOf hlt]; rfl
theorem ln_ar (P : Ps X) (ht : ∀ x ∈ X, tf (iabs x) = 1 ∨ tf (iabs x) = -1) : Ar (lnP X ++ [0]) (keptM (lnP X) (lnT tf X) 0 0) := by
  have R := nu_ren P
  have get : ∀ y ∈ lnP X ++ [0], y ≠ 0 → ∃ x ∈ X, nuM X x = y := fun y hy h0 => by
    rcases List.mem_append.mp hy with hy | hy
    · exact List.mem_map.mp hy
    · exact absurd (List.mem_singleton.mp hy) h0
  refine ⟨?_, fun y hy h0 => ?_, fun y hy h0 t htt => ?_⟩
  · rw [List.nodup_append]
    refine ⟨nodup_map_of P.nd R.inj, by simp, fun a ha b hb e => ?_⟩
    rw [List.mem_singleton.mp hb] at e
    obtain ⟨x, hx, rfl⟩ := List.mem_map.mp ha
    exact R.ne hx e
  · obtain ⟨x, hx, rfl⟩ := get y hy h0
    refine ⟨?_, tf (iabs x), by rw [nu_abs (P.nz x hx)]; exact lnT_get hx⟩
    rw [← R.odd x hx]
    exact List.mem_append_left _ (List.mem_map_of_mem (P.cl x hx))
  · obtain ⟨x, hx, rfl⟩ := get y hy h0
    rw [nu_abs (P.nz x hx), lnT_get hx] at htt
    cases htt
    exact ht x hx
theorem ln_eps (P : Ps X) {tn : List (Int × Int)} (h : ∀ x ∈ X, dget tn (iabs x) = some (tf (iabs x))) : ∀ x ∈ X, epsM (keptM (lnP X) (lnT tf X) 0 0) (nuM X x) = epsM tn x := fun x hx => by
  unfold epsM
  rw [nu_abs (P.nz x hx), lnT_get hx, h x hx]
  simp only [nu_sign (X := X) (P.nz x hx)]
/-- its faces are those of what was numbered -/
theorem ln_faces (P : Ps X) (ht : ∀ x ∈ X, tf (iabs x) = 1 ∨ tf (iabs x) = -1) {tn : List (Int × Int)} (h : ∀ x ∈ X, dget tn (iabs x) = some (tf (iabs x))) (A : Ar (X ++ [0]) tn) : (sidesN (X ++ [0]) tn).2 = (sidesN (lnP X ++ [0]) (keptM (lnP X) (lnT tf X) 0 0)).2 :=
  faces_map (nu_ren P) A (ln_ar P ht) (ln_eps P h)

/-! numbered as met first -/
theorem nu_take (X : List Int) (i : Nat) {x : Int} (h : x ∈ X.take i) : nuM X x = nuM (X.take i) x := by
  have hp : ∃ m, ordM X = ordM (X.take i) ++ m := by
    have : ∀ l m : List Int, ∃ q, ordM (l ++ m) = ordM l ++ q := by
      intro l m
      refine dd_snoc_induct (P := fun m => ∃ q, ordM (l ++ m) = ordM l ++ q) ⟨[], by simp⟩ (fun m y ih => ?_) m
      obtain ⟨q, e⟩ := ih
      rw [← List.append_assoc, ordM_snoc, e]
      split
      · exact ⟨q, rfl⟩
      · exact ⟨q ++ [iabs y], by rw [List.append_assoc]⟩
    obtain ⟨q, e⟩ := this (X.take i) (X.drop i)
    rw [List.take_append_drop] at e
    exact ⟨q, e⟩
  obtain ⟨m, e⟩ := hp
  unfold nuM
  rw [e, idxOf_app (mem_ordM h)]
theorem dd_map_inj {f : Int → Int} : ∀ (l : List Int), (∀ x ∈ l, ∀ y ∈ l, f x = f y → x = y) → dd (l.map f) = (dd l).map f := fun l => by
  refine dd_snoc_induct (P := fun l => (∀ x ∈ l, ∀ y ∈ l, f x = f y → x = y) → dd (l.map f) = (dd l).map f) (fun _ => rfl) (fun l a ih h => ?_) l
  have ih := ih fun x hx y hy => h x (List.mem_append_left _ hx) y (List.mem_append_left _ hy)
  rw [List.map_append, List.map_singleton, dd_append, dd_append, ih]
  by_cases hm : a ∈ dd l
  · rw [if_pos hm, if_pos (List.mem_map_of_mem hm)]
  · rw [if_neg hm, if_neg, List.map_append, List.map_singleton]
    intro z
    obtain ⟨b, hb, e⟩ := List.mem_map.mp z
    have hb' := (mem_dd l b).mp hb
    have := h b (List.mem_append_left _ hb') a (List.mem_append_right _ List.mem_cons_self) e
    subst this
    exact hm hb
end
end Ov

/-! Plain: numbered anew it is a drawing; braids, turned on, mirrored. -/
namespace Ov
section
variable {X : List Int} {tf : Int → Int} {tn : List (Int × Int)}
theorem ap_ln (P : Ps X) : apRun ((ordM X).length : Nat) [] ((lnP X).map .int) = true := by
  have R := nu_ren P
  have hnd : (lnP X).Nodup := nodup_map_of P.nd R.inj
  have hll : (lnP X).length = X.length := by simp [lnP]
  have key : ∀ m i, m + i = X.length → apRun ((ordM X).length : Nat) ((lnP X).take i) (((lnP X).drop i).map .int) = true := by
    intro m
    induction m with
    | zero =>
      intro i hi
      rw [List.drop_of_length_le (by omega)]
      rfl
    | succ m ih =>
      intro i hi
      have hil : i < X.length := by omega
      have hxi : X[i]? = some X[i] := List.getElem?_eq_getElem hil
      have hx : X[i] ∈ X := List.getElem_mem hil
      have hy : (lnP X)[i]'(by omega) = nuM X X[i] := by simp [lnP_map]
      rw [List.drop_eq_getElem_cons (by omega), List.map_cons, hy]
      have ih := ih (i + 1) (by omega)
      have htk : (lnP X).take (i + 1) = (lnP X).take i ++ [nuM X X[i]] := by
        rw [List.take_add_one, List.getElem?_eq_getElem (by omega), hy]; rfl
      rw [htk] at ih
      have hx0 := P.nz _ hx
      have hlt := List.idxOf_lt_length_of_mem (mem_ordM hx)
      have hab := nu_abs (X := X) hx0
      have hno : nuM X X[i] ∉ (lnP X).take i := fun h => by
        obtain ⟨j, hj, e⟩ := List.mem_iff_getElem.mp h
        rw [List.length_take] at hj
        rw [List.getElem_take] at e
        have := (List.getElem_inj hnd).mp (e.trans hy.symm)
        omega
      have htake : ∀ z, z ∈ X.take i → nuM X z ∈ (lnP X).take i := fun z hz => by
        rw [lnP_map, ← List.map_take]
        exact List.mem_map_of_mem hz
      show apRun _ _ (.int _ :: _) = true
      unfold apRun
      rw [if_neg (by
        rintro (h | h | h)
        · exact R.ne hx h
        · exact hno h
        · omega)]
      rw [if_neg (by
        rintro ⟨h1, h2⟩
        apply h2
        -- a new crossing
        have hnew : iabs X[i] ∉ ordM (X.take i) := fun z => by
          obtain ⟨y, hy1, hy2⟩ := ordM_mem z
          have hyX := List.mem_of_mem_take hy1
          have : y = X[i] ∨ y = -X[i] := by
            unfold iabs at hy2
            split at hy2 <;> split at hy2 <;> omega
          rcases this with rfl | e
          · exact hno (htake _ hy1)
          · rw [e] at hy1
            have := htake _ hy1
            rw [R.odd _ hx] at this
            exact h1 this
        have hmem : X[i] ∈ X.take (i + 1) := by
          rw [List.take_add_one, hxi]
          exact List.mem_append_right _ List.mem_cons_self
        have e1 := nu_take X (i + 1) hmem
        have e2 := nu_abs (X := X.take (i + 1)) hx0
        rw [← e1, ordM_succ hxi, if_neg hnew, idxOf_new hnew] at e2
        have e3 : ((lnP X).take i).map iabs = ((X.take i).map iabs).map fun a => (((ordM X).idxOf a : Nat) + 1 : Int) := by
          rw [lnP_map, ← List.map_take, List.map_map, List.map_map]
          refine List.map_congr_left fun z hz => ?_
          exact nu_abs (P.nz z (List.mem_of_mem_take hz))
        have e4 : dd (((lnP X).take i).map iabs) = (ordM (X.take i)).map fun a => (((ordM X).idxOf a : Nat) + 1 : Int) := by
          rw [e3]
          refine dd_map_inj _ fun a ha b hb e => ?_
          obtain ⟨za, hza, rfl⟩ := List.mem_map.mp ha
          obtain ⟨zb, hzb, rfl⟩ := List.mem_map.mp hb
          have h1 := get_idx (mem_ordM (List.mem_of_mem_take hza))
          have h2 := get_idx (mem_ordM (List.mem_of_mem_take hzb))
          have : (ordM X).idxOf (iabs za) = (ordM X).idxOf (iabs zb) := by omega
          rw [this, h2] at h1
          exact h1.symm
        rw [e2, e4, List.length_map]
        omega)]
      exact ih
  have := key X.length 0 (by omega)
  simpa using this
theorem at_ln (h : ∀ x ∈ X, tf (iabs x) = 1 ∨ tf (iabs x) = -1) : atRun ((lnT tf X).map .int) = true := by
  have : ∀ l : List Int, (∀ y ∈ l, y = 1 ∨ y = -1) → atRun (l.map .int) = true := by
    intro l
    induction l with
    | nil => intro _; rfl
    | cons a l ih =>
      intro hl
      rw [List.map_cons]
      unfold atRun
      have : iabs a = 1 := by rcases hl a List.mem_cons_self with rfl | rfl <;> rfl
      rw [if_neg (by rw [this]; decide)]
      exact ih fun y hy => hl y (List.mem_cons_of_mem _ hy)
  refine this _ fun y hy => ?_
  obtain ⟨z, hz, rfl⟩ := List.mem_map.mp hy
  obtain ⟨x, hx, rfl⟩ := ordM_mem hz
  exact h x hx
/-- with one face more than crossings it is a drawing -/
theorem ln_drw (P : Ps X) (ht : ∀ x ∈ X, tf (iabs x) = 1 ∨ tf (iabs x) = -1) (h40 : (ordM X).length ≤ 40) (hf : (sidesN (lnP X ++ [0]) (keptM (lnP X) (lnT tf X) 0 0)).2 = ((ordM X).length : Int) + 1) : isDrw (drD (lnP X) (lnT tf X)) = true := by
  have hlt : (lnT tf X).length = (ordM X).length := by simp [lnT]
  have hlp : (lnP X).length = X.length := by simp [lnP]
  have hpl := ps_len P
  show (decide (((lnT tf X).map D.int).length ≤ 40) && (decide (((lnP X).map D.int).length = 2 * ((lnT tf X).map D.int).length) && (apRun (((lnT tf X).map D.int).length : Nat) [] ((lnP X).map .int) && (atRun ((lnT tf X).map .int) && drwOk (intsD ((lnP X).map .int)) (intsD ((lnT tf X).map .int)))))) = true
  rw [List.length_map, List.length_map, hlt, hlp, hpl, ap_ln P, at_ln ht, intsD_map, intsD_map, decide_eq_true h40]
  simp only [decide_true, Bool.true_and]
  unfold drwOk
  rw [rowM_00, sides_imax (bey_perm (ln_ar P ht)), hf, hlt]
  exact decide_eq_true (by omega)
/-- numbering what was numbered -/
theorem ln_ln (P : Ps X) {Y : List Int} (hY : ∀ y ∈ Y, y ∈ X) : lnP (Y.map (nuM X)) = lnP Y ∧ lnT (fun i => (0 :: lnT tf X).getD i.toNat 0) (Y.map (nuM X)) = lnT tf Y := by
  have inj : ∀ a ∈ Y.map iabs, ∀ b ∈ Y.map iabs, (((ordM X).idxOf a : Nat) + 1 : Int) = ((ordM X).idxOf b : Nat) + 1 → a = b := fun a ha b hb e => by
    obtain ⟨za, hza, rfl⟩ := List.mem_map.mp ha
    obtain ⟨zb, hzb, rfl⟩ := List.mem_map.mp hb
    have h1 := get_idx (mem_ordM (hY _ hza))
    have h2 := get_idx (mem_ordM (hY _ hzb))
    have : (ordM X).idxOf (iabs za) = (ordM X).idxOf (iabs zb) := by omega
    rw [this, h2] at h1
    exact h1.symm
  have eo : ordM (Y.map (nuM X)) = (ordM Y).map fun a => (((ordM X).idxOf a : Nat) + 1 : Int) := by
    show dd ((Y.map (nuM X)).map iabs) = _
    have : (Y.map (nuM X)).map iabs = (Y.map iabs).map fun a => (((ordM X).idxOf a : Nat) + 1 : Int) := by
      rw [List.map_map, List.map_map]
      exact List.map_congr_left fun z hz => nu_abs (P.nz z (hY z hz))
    rw [this]
    exact dd_map_inj _ inj
  constructor
  · rw [lnP_map, lnP_map, List.map_map]
    refine List.map_congr_left fun z hz => ?_
    have h0 := P.nz z (hY z hz)
    show (((ordM (Y.map (nuM X))).idxOf (iabs (nuM X z)) : Nat) + 1 : Int) * (if decide (nuM X z < 0) = true then -1 else 1) = (((ordM Y).idxOf (iabs z) : Nat) + 1 : Int) * (if decide (z < 0) = true then -1 else 1)
    have hs := nu_sign (X := X) h0
    rw [nu_abs h0, eo]
    have e1 : ((ordM Y).map fun a => (((ordM X).idxOf a : Nat) + 1 : Int)).idxOf (((ordM X).idxOf (iabs z) : Nat) + 1 : Int) = (ordM Y).idxOf (iabs z) := by
      have hm := mem_ordM hz
      have hlt := List.idxOf_lt_length_of_mem hm
      have hn : ((ordM Y).map fun a => (((ordM X).idxOf a : Nat) + 1 : Int)).Nodup := nodup_map_of (ordM_nd Y) fun a ha b hb => inj a ((mem_dd _ a).mp ha) b ((mem_dd _ b).mp hb)
      have := idx_get hn (i := (ordM Y).idxOf (iabs z)) (by simpa using hlt)
      rw [List.getD_eq_getElem?_getD, List.getElem?_map, List.getElem?_eq_getElem hlt, List.getElem_idxOf hlt] at this
      exact this
    rw [e1]
    simp only [hs]
  · unfold lnT
    rw [eo, List.map_map]
    refine List.map_congr_left fun a ha => ?_
    obtain ⟨z, hz, rfl⟩ := ordM_mem ha
    have hlt := List.idxOf_lt_length_of_mem (mem_ordM (hY z hz))
    show ((0 : Int) :: (ordM X).map tf).getD (((ordM X).idxOf (iabs z) : Nat) + 1 : Int).toNat 0 = _
    rw [show (((ordM X).idxOf (iabs z) : Nat) + 1 : Int).toNat = (ordM X).idxOf (iabs z) + 1 by omega, List.getD_eq_getElem?_getD, List.getElem?_cons_succ, List.getElem?_map, List.getElem?_eq_getElem hlt, List.getElem_idxOf hlt]
    rfl
end
end Ov

/-! Plain: drawings of braids: begun anywhere, mirrored. -/
namespace Ov
section
variable {st : Nat} {w : Wd} {T : List Ev} {u : Int × Int}
def tfW (w : Wd) : Int → Int := fun i => (signsM w).getD i.toNat 0
def dps (w : Wd) (T : List Ev) : List Int := lnP (T.map (xv w))
def dts (w : Wd) (T : List Ev) : List Int := lnT (tfW w) (T.map (xv w))
theorem tfW_at {l : Nat} (h : l < w.length) : tfW w ((l : Int) + 1) = sg w l := by
  unfold tfW signsM sg
  rw [show ((l : Int) + 1).toNat = l + 1 by omega, List.getD_eq_getElem?_getD, List.getElem?_cons_succ, List.getElem?_map, List.getElem?_eq_getElem h, List.getD_eq_getElem?_getD, List.getElem?_eq_getElem h]; rfl
theorem tnW_ok (w : Wd) : TnOk w (keptM [] (w.map (·.2)) 0 0) := fun l hl => by
  rw [kept_get (by omega) (by simp; omega)]
  congr 1
  unfold sg
  rw [show ((l : Int) + 1).toNat - 1 = l by omega, List.getD_eq_getElem?_getD, List.getElem?_map, List.getElem?_eq_getElem hl, List.getD_eq_getElem?_getD, List.getElem?_eq_getElem hl]; rfl
theorem ev_ps (E : EvOk st w T u) : Ps (T.map (xv w)) := by
  refine ⟨nodup_map_of E.nd fun x hx y hy e => ?_, fun x hx => ?_, fun x hx => ?_⟩
  · have h1 := (E.mem x).mp hx
    have h2 := (E.mem y).mp hy
    exact xv_inj E.ok h1.1 h2.1 h1.2 h2.2 e
  · obtain ⟨e, he, rfl⟩ := List.mem_map.mp hx
    exact xv_ne E.ok ((E.mem e).mp he).1
  · obtain ⟨e, he, rfl⟩ := List.mem_map.mp hx
    have h := (E.mem e).mp he
    rw [← xv_oth h.2]
    exact List.mem_map_of_mem ((E.mem _).mpr ⟨h.1, isP_oth h.2⟩)
theorem ev_tf (E : EvOk st w T u) : ∀ x ∈ T.map (xv w), (tfW w (iabs x) = 1 ∨ tfW w (iabs x) = -1) ∧ dget (keptM [] (w.map (·.2)) 0 0) (iabs x) = some (tfW w (iabs x)) := fun x hx => by
  obtain ⟨e, he, rfl⟩ := List.mem_map.mp hx
  have h := ((E.mem e).mp he).1
  rw [xv_abs E.ok h, tfW_at h]
  exact ⟨(gn_ok E.ok h).2, tnW_ok w e.1 h⟩
theorem ev_ord (E : EvOk st w T u) : (ordM (T.map (xv w))).length = w.length := by
  refine Nat.le_antisymm (few_of (ordM_nd _) fun y hy => ?_) ?_
  · obtain ⟨x, hx, rfl⟩ := ordM_mem hy
    obtain ⟨e, he, rfl⟩ := List.mem_map.mp hx
    have h := ((E.mem e).mp he).1
    rw [xv_abs E.ok h]
    omega
  · have := nodup_le (l := (List.range w.length).map fun i : Nat => (i : Int) + 1) (m := ordM (T.map (xv w))) (List.Pairwise.map _ (fun a b (h : a ≠ b) e => h (by omega)) List.nodup_range) fun y hy => by
      obtain ⟨l, hl, rfl⟩ := List.mem_map.mp hy
      have hl := List.mem_range.mp hl
      have hm : ((l, gn w l) : Ev) ∈ T := (E.mem _).mpr ⟨hl, by unfold isP; simp⟩
      have := mem_ordM (List.mem_map_of_mem (f := xv w) hm)
      rw [xv_abs E.ok (e := (l, gn w l)) hl] at this
      exact this
    simpa using this
/-- of one rope it is a drawing -/
theorem braid_drw (K : Knot st w) (h40 : w.length ≤ 40) (E : EvOk st w T u) : isDrw (drD (dps w T) (dts w T)) = true := by
  by_cases h2 : 2 ≤ st
  · have P := ev_ps E
    have ht := ev_tf E
    refine ln_drw P (fun x hx => (ht x hx).1) (by rw [ev_ord E]; exact h40) ?_
    rw [← ln_faces P (fun x hx => (ht x hx).1) (fun x hx => (ht x hx).2) (rowE_ar E (tnW_ok w)), ev_ord E]
    exact braid_faces E (tnW_ok w) (gens_lo K h2) (gens_hi K h2)
  · have hw : w = [] := by
      cases w with
      | nil => rfl
      | cons a r =>
        have := (K.ok a List.mem_cons_self).1
        omega
    subst hw
    have hT : T = [] := by
      cases T with
      | nil => rfl
      | cons e r =>
        have := ((E.mem e).mp List.mem_cons_self).1
        simp at this
    subst hT
    decide +kernel
/-- turned on by j passes -/
theorem braid_turn (E : EvOk st w T u) (j : Nat) : lnP (rotM (dps w T) j) = dps w (rotE T j) ∧ lnT (fun i => (0 :: dts w T).getD i.toNat 0) (rotM (dps w T) j) = dts w (rotE T j) ∧ ∀ x ∈ rotM (dps w T) j, x ≠ 0 := by
  have P := ev_ps E
  have e : rotM (dps w T) j = (rotM (T.map (xv w)) j).map (nuM (T.map (xv w))) := by
    unfold rotM dps
    rw [lnP_map, List.map_append, List.map_drop, List.map_take]
  have e2 : rotM (T.map (xv w)) j = (rotE T j).map (xv w) := by
    unfold rotM rotE
    rw [List.map_append, List.map_drop, List.map_take]
  have hm : ∀ y ∈ rotM (T.map (xv w)) j, y ∈ T.map (xv w) := fun y hy => by
    rcases List.mem_append.mp hy with h | h
    · exact List.mem_of_mem_drop h
    · exact List.mem_of_mem_take h
  obtain ⟨a, b⟩ := ln_ln (tf := tfW w) P hm
  refine ⟨?_, ?_, fun x hx => ?_⟩
  · rw [e, a, e2]; rfl
  · rw [e]
    show lnT (fun i => (0 :: lnT (tfW w) (T.map (xv w))).getD i.toNat 0) _ = _
    rw [b, e2]; rfl
  · rw [e] at hx
    obtain ⟨y, hy, rfl⟩ := List.mem_map.mp hx
    exact (nu_ren P).ne (hm y hy)
theorem rot_back {α : Type} (T : List α) {j : Nat} (h : j ≤ T.length) : (T.drop j ++ T.take j).drop (T.length - j) ++ (T.drop j ++ T.take j).take (T.length - j) = T := by
  have e : (T.drop j).length = T.length - j := List.length_drop
  rw [← e, List.drop_left, List.take_left, List.take_append_drop]
theorem dps_len : (dps w T).length = T.length := by simp [dps, lnP]

/-! exchanged -/
def mirW (w : Wd) : Wd := w.map fun x => (x.1, -x.2)
theorem mir_gn (w : Wd) (l : Nat) : gn (mirW w) l = gn w l := by
  unfold gn mirW
  rw [List.getD_eq_getElem?_getD, List.getElem?_map, List.getD_eq_getElem?_getD]
  cases w[l]? <;> rfl
theorem mir_sg (w : Wd) (l : Nat) : sg (mirW w) l = -sg w l := by
  unfold sg mirW
  rw [List.getD_eq_getElem?_getD, List.getElem?_map, List.getD_eq_getElem?_getD]
  cases w[l]? <;> rfl
theorem mir_len (w : Wd) : (mirW w).length = w.length := by simp [mirW]
theorem mir_stp (w : Wd) (l p : Nat) : stp (mirW w) l p = stp w l p := by unfold stp; rw [mir_gn]
theorem mir_isP (w : Wd) (e : Ev) : isP (mirW w) e = isP w e := by unfold isP; rw [mir_gn]
theorem mir_lastC (w : Wd) (c : Nat) : ∀ l, lastC (mirW w) c l = lastC w c l
  | 0 => rfl
  | l + 1 => by unfold lastC; rw [mir_gn, mir_lastC w c l]
theorem mir_fc (w : Wd) (c l : Nat) : fcM st (mirW w) c l = fcM st w c l := by
  unfold fcM
  rw [mir_lastC, mir_lastC, mir_len]
theorem mir_ch {v x : Int × Int} : ∀ {T : List Ev}, Ch st w v T x → Ch st (mirW w) v T x := fun {T} => by
  induction T generalizing v with
  | nil => exact fun h => h
  | cons e r ih =>
    rintro ⟨h1, h2⟩
    refine ⟨?_, ?_⟩
    · rw [← h1]
      unfold lam
      rw [mir_fc, mir_fc]
    · have : lamN st (mirW w) e = lamN st w e := by
        unfold lamN
        rw [mir_stp, mir_fc, mir_fc]
      rw [this]
      exact ih h2
theorem mir_pos (w : Wd) (p : Nat) : ∀ l, pos (mirW w) p l = pos w p l
  | 0 => rfl
  | l + 1 => by show stp _ _ _ = stp _ _ _; rw [mir_stp, mir_pos w p l]
theorem mir_qp (w : Wd) : ∀ t, qp (mirW w) t = qp w t
  | 0 => rfl
  | t + 1 => by show pos _ _ _ = pos _ _ _; rw [mir_len, mir_pos, mir_qp w t]
theorem mir_ok (h : WdOk st w) : WdOk st (mirW w) := fun x hx => by
  obtain ⟨y, hy, rfl⟩ := List.mem_map.mp hx
  have := h y hy
  exact ⟨this.1, by rcases this.2 with e | e <;> simp [e]⟩
theorem mir_knot (K : Knot st w) : Knot st (mirW w) := by
  refine ⟨mir_ok K.ok, K.pos, ?_, by rw [mir_qp]; exact K.cl⟩
  have : qp (mirW w) = qp w := funext (mir_qp w)
  rw [this]
  exact K.nd
theorem mir_ev (E : EvOk st w T u) : EvOk st (mirW w) T u :=
  ⟨mir_ok E.ok, E.nd, fun e => by rw [E.mem e, mir_len, mir_isP], mir_ch E.ch⟩
theorem mir_xv (w : Wd) (e : Ev) : xv (mirW w) e = -xv w e := by
  unfold xv
  rw [mir_gn, mir_sg]
  split
  · rw [Int.neg_neg, Int.mul_neg, Int.neg_neg]
  · rw [Int.mul_neg]
theorem braid_mir (E : EvOk st w T u) : (dps w T).map (fun i => -i) = dps (mirW w) T ∧ (dts w T).map (fun i => -i) = dts (mirW w) T := by
  have P := ev_ps E
  have eX : T.map (xv (mirW w)) = (T.map (xv w)).map fun i => -i := by
    rw [List.map_map]
    exact List.map_congr_left fun e _ => mir_xv w e
  have eo : ordM (T.map (xv (mirW w))) = ordM (T.map (xv w)) := by
    unfold ordM
    rw [eX, List.map_map]
    congr 1
    exact List.map_congr_left fun x _ => iabs_neg x
  constructor
  · have e3 : ∀ f : Int → Int, (T.map (xv (mirW w))).map f = (T.map (xv w)).map fun x => f (-x) := fun f => by rw [eX, List.map_map]; rfl
    have e4 : ((T.map (xv w)).map (nuM (T.map (xv w)))).map (fun i => -i) = (T.map (xv w)).map fun x => -nuM (T.map (xv w)) x := by rw [List.map_map]; rfl
    unfold dps
    rw [lnP_map, lnP_map, e3, e4]
    refine List.map_congr_left fun x hx => ?_
    rw [← (nu_ren P).odd x hx]
    unfold nuM
    rw [eo]
  · unfold dts lnT
    rw [eo, List.map_map]
    refine List.map_congr_left fun y _ => ?_
    show -tfW w y = tfW (mirW w) y
    unfold tfW
    have : signsM (mirW w) = (signsM w).map fun i => -i := by
      unfold signsM mirW
      rw [List.map_cons, List.map_map, List.map_map]; rfl
    rw [this, List.getD_eq_getElem?_getD, List.getD_eq_getElem?_getD, List.getElem?_map]
    cases (signsM w)[y.toNat]? <;> rfl
end
/-- the drawn drawing -/
theorem drawn_ev (x : Int) (most : Nat) : ∃ T u, EvOk (braidM x most).1 (braidM x most).2 T u ∧ drawnPs x most = dps (braidM x most).2 T ∧ drawnTs x most = dts (braidM x most).2 T := by
  have K := braid_knot x most
  obtain ⟨u, E⟩ := rot_ev (knot_ev K) (startM x (drawRow (braidM x most).1 (braidM x most).2))
  refine ⟨_, u, E, ?_, ?_⟩
  · unfold drawnPs dps rotE
    rw [List.map_append, List.map_drop, List.map_take, ← drawRow_ev]; rfl
  · unfold drawnTs dts rotE
    rw [List.map_append, List.map_drop, List.map_take, ← drawRow_ev]; rfl
end Ov

/-! Plain: the law's own count of faces, its word for passes. -/
namespace Ov
open L2
/-- each number one greater -/
def incM (fd : List (Side × Int)) : List (Side × Int) := fd.map fun p => (p.1, p.2 + 1)
theorem inc_get (fd : List (Side × Int)) (h : Side) : dget (incM fd) h = (dget fd h).map (· + 1) := by
  induction fd with
  | nil => rfl
  | cons p r ih =>
    show dget ((p.1, p.2 + 1) :: incM r) h = _
    rw [dget_cons, dget_cons, ih]
    show (if p.1 = h then some (p.2 + 1) else _) = _
    split <;> rfl
theorem inc_len (fd : List (Side × Int)) : (incM fd).length = fd.length := List.length_map ..
theorem inc_put (fd : List (Side × Int)) (h : Side) (v : Int) : dput (incM fd) h (v + 1) = incM (dput fd h v) := by
  unfold dput
  rw [any_iff, any_iff, inc_get, Option.isSome_map]
  by_cases hs : (dget fd h).isSome = true
  · rw [if_pos hs, if_pos hs]
    unfold incM
    rw [List.map_map, List.map_map]
    refine List.map_congr_left fun p _ => ?_
    show (if p.1 = h then (p.1, v + 1) else (p.1, p.2 + 1)) = ((if p.1 = h then (p.1, v) else p).1, (if p.1 = h then (p.1, v) else p).2 + 1)
    split <;> rfl
  · rw [if_neg hs, if_neg hs]
    unfold incM
    rw [List.map_append]; rfl
theorem inc_imax {fd : List (Side × Int)} (h : fd ≠ []) : imax ((incM fd).map (·.2)) = imax (fd.map (·.2)) + 1 := by
  have hn : fd.map (·.2) ≠ [] := fun z => h (List.map_eq_nil_iff.mp z)
  obtain ⟨a, b⟩ := imax_mem hn
  refine (imax_eq ?_ ?_).symm
  · obtain ⟨p, hp, e⟩ := List.mem_map.mp a
    rw [← e]
    exact List.mem_map.mpr ⟨(p.1, p.2 + 1), List.mem_map.mpr ⟨p, hp, rfl⟩, rfl⟩
  · intro y hy
    obtain ⟨q, hq, rfl⟩ := List.mem_map.mp hy
    obtain ⟨p, hp, rfl⟩ := List.mem_map.mp hq
    have := b p.2 (List.mem_map_of_mem hp)
    show p.2 + 1 ≤ _
    omega
/-! passes -/
def cntD (d : D) (ds : List D) : Nat := ds.countP fun e => deq e d
def inD (d : D) (ds : List D) : Bool := ds.any fun e => deq e d
def ordS (o : List Int) (i : Int) : List Int := if iabs i ∈ o then o else o ++ [iabs i]
def lpRun (n : Int) (all : List D) : List Int → List D → Bool
  | o, [] => decide (o = rgI 1 (n + 1)) && decide ((all.length : Int) = 2 * n)
  | o, .int i :: ds => if i = 0 ∨ n < iabs i ∨ cntD (.int i) all ≠ 1 ∨ inD (.int (-i)) all = false then false else lpRun n all (ordS o i) ds
  | _, _ :: _ => false
def drwR (ps ts : List Int) : Bool := decide (imax ((incM (sidesM (ps ++ [0]) (keptM ps ts 0 0))).map (·.2)) = (ts.length : Int) + 1)
def rightM : D → Bool
  | .tup [.tup ps, .tup ts] => lpRun ts.length ps [] ps && (atRun ts && drwR (intsD ps) (intsD ts))
  | _ => false
theorem lp_ints {n : Int} {all : List D} : ∀ (ds : List D) (o : List Int), lpRun n all o ds = true → ds = (intsD ds).map .int
  | [], _, _ => rfl
  | d :: ds, o, h => by
    cases d with
    | int i =>
      unfold lpRun at h
      split at h
      · cases h
      · show _ = D.int i :: (intsD ds).map .int
        rw [← lp_ints ds _ h]
    | _ => cases h
theorem lp_iff {n : Int} {all : List D} : ∀ (ns o : List Int), lpRun n all o (ns.map .int) = true ↔ (∀ x ∈ ns, x ≠ 0 ∧ iabs x ≤ n ∧ cntD (.int x) all = 1 ∧ inD (.int (-x)) all = true) ∧ ns.foldl ordS o = rgI 1 (n + 1) ∧ (all.length : Int) = 2 * n
  | [], o => by
    show (decide (o = rgI 1 (n + 1)) && decide ((all.length : Int) = 2 * n)) = true ↔ _
    simp
  | i :: ns, o => by
    rw [List.map_cons]
    unfold lpRun
    by_cases h : i = 0 ∨ n < iabs i ∨ cntD (.int i) all ≠ 1 ∨ inD (.int (-i)) all = false
    · rw [if_pos h]
      refine ⟨fun z => (by cases z), fun z => ?_⟩
      have q := z.1 i List.mem_cons_self
      rcases h with h | h | h | h
      · exact absurd h q.1
      · have := q.2.1; omega
      · exact absurd q.2.2.1 h
      · rw [q.2.2.2] at h; cases h
    · rw [if_neg h, lp_iff ns (ordS o i), List.foldl_cons]
      have h : i ≠ 0 ∧ ¬ n < iabs i ∧ cntD (.int i) all = 1 ∧ inD (.int (-i)) all = true := by simpa using h
      constructor
      · rintro ⟨a, b, e⟩
        refine ⟨fun x hx => ?_, b, e⟩
        rcases List.mem_cons.mp hx with rfl | hx
        · exact ⟨h.1, by omega, h.2.2.1, h.2.2.2⟩
        · exact a x hx
      · rintro ⟨a, b, e⟩
        exact ⟨fun x hx => a x (List.mem_cons_of_mem _ hx), b, e⟩
theorem cnt_ints (i : Int) (ns : List Int) : cntD (.int i) (ns.map .int) = ns.count i := by
  unfold cntD
  rw [List.countP_map]
  unfold List.count
  congr 1
theorem in_ints (i : Int) (ns : List Int) : inD (.int i) (ns.map .int) = decide (i ∈ ns) := by
  unfold inD
  induction ns with
  | nil => simp
  | cons n ns ih =>
    rw [List.map_cons, List.any_cons, ih, deq_int]
    by_cases h : n = i
    · subst h; simp
    · have h' : ¬ i = n := fun z => h z.symm
      simp [h, h']
theorem ordS_fold (l : List Int) : ∀ ns : List Int, ns.foldl ordS (ordM l) = ordM (l ++ ns) := fun ns => by
  induction ns generalizing l with
  | nil => simp
  | cons i ns ih =>
    rw [List.foldl_cons]
    have : ordS (ordM l) i = ordM (l ++ [i]) := by rw [ordM_snoc]; rfl
    rw [this, ih, List.append_assoc]; rfl
theorem ordM_nil : ordM [] = [] := rfl
theorem ordM_pre (l : List Int) : ∀ ns : List Int, ∃ r, ordM (l ++ ns) = ordM l ++ r := fun ns => by
  induction ns generalizing l with
  | nil => exact ⟨[], by simp⟩
  | cons i ns ih =>
    obtain ⟨r, e⟩ := ih (l ++ [i])
    rw [List.append_assoc] at e
    rw [show l ++ i :: ns = l ++ ([i] ++ ns) from rfl, e, ordM_snoc]
    split
    · exact ⟨r, rfl⟩
    · exact ⟨[iabs i] ++ r, by rw [List.append_assoc]⟩
theorem rg1_len (n : Nat) : (rgI 1 ((n : Int) + 1)).length = n := by unfold rgI; simp
theorem rg1_get {n k : Nat} (h : k < n) : (rgI 1 ((n : Int) + 1))[k]? = some (1 + (k : Int)) := by
  unfold rgI
  rw [List.getElem?_map, List.getElem?_range (by omega)]; rfl
theorem rg1_succ (m : Nat) : rgI 1 (((m + 1 : Nat) : Int) + 1) = rgI 1 ((m : Int) + 1) ++ [(m : Int) + 1] := by
  unfold rgI
  rw [show (((m + 1 : Nat) : Int) + 1 - 1).toNat = m + 1 by omega, show ((m : Int) + 1 - 1).toNat = m by omega, List.range_succ, List.map_append]
  simp [Int.add_comm]
theorem rg1_mem {n : Nat} {y : Int} : y ∈ rgI 1 ((n : Int) + 1) ↔ 1 ≤ y ∧ y ≤ n := by
  unfold rgI
  rw [List.mem_map]
  constructor
  · rintro ⟨i, hi, rfl⟩
    have := List.mem_range.mp hi
    omega
  · rintro ⟨a, b⟩
    exact ⟨(y - 1).toNat, List.mem_range.mpr (by omega), by omega⟩
/-- right passes are met in order -/
theorem ap_ord {n : Int} : ∀ (ns met : List Int), apRun n met (ns.map .int) = true → (∃ m : Nat, ordM met = rgI 1 ((m : Int) + 1)) → ∃ m : Nat, ordM (met ++ ns) = rgI 1 ((m : Int) + 1)
  | [], met, _, h => by rw [List.append_nil]; exact h
  | i :: ns, met, h, ⟨m, hm⟩ => by
    rw [List.map_cons] at h
    unfold apRun at h
    split at h
    · cases h
    · split at h
      · cases h
      · rename_i h2
        rw [show met ++ i :: ns = (met ++ [i]) ++ ns by simp]
        refine ap_ord ns (met ++ [i]) h ?_
        rw [ordM_snoc]
        split
        · exact ⟨m, hm⟩
        · rename_i h3
          refine ⟨m + 1, ?_⟩
          have h4 : -i ∉ met := fun z => h3 (by have := mem_ordM z; rw [iabs_neg] at this; exact this)
          have h5 : iabs i = 1 + ((ordM met).length : Int) := Decidable.byContradiction fun z => h2 ⟨h4, z⟩
          rw [h5, hm, rg1_len, rg1_succ, Int.add_comm]
theorem ap_lp {n : Nat} {ps : List Int} (h : apRun n [] (ps.map .int) = true) (hl : ps.length = 2 * n) : lpRun n (ps.map .int) [] (ps.map .int) = true := by
  obtain ⟨a, b⟩ := passes_pair h hl
  rw [lp_iff]
  refine ⟨fun x hx => ?_, ?_, by rw [List.length_map]; omega⟩
  · have hx' := (a x).mp hx
    refine ⟨hx'.1, hx'.2, ?_, ?_⟩
    · have h1 := List.nodup_iff_count.mp b x
      have h2 := List.count_pos_iff.mpr hx
      rw [cnt_ints]; omega
    · rw [in_ints]
      exact decide_eq_true ((a (-x)).mpr ⟨by omega, by rw [iabs_neg]; exact hx'.2⟩)
  · have e := ordS_fold [] ps
    rw [ordM_nil, List.nil_append] at e
    rw [e]
    obtain ⟨m, hm⟩ := ap_ord ps [] h ⟨0, rfl⟩
    rw [List.nil_append] at hm
    have : m = n := by
      have le : m ≤ n := by
        by_cases z : m = 0
        · omega
        · have : (m : Int) ∈ ordM ps := by rw [hm]; exact rg1_mem.mpr ⟨by omega, by omega⟩
          obtain ⟨x, hx, e⟩ := ordM_mem this
          have := ((a x).mp hx).2
          omega
      have ge : n ≤ m := by
        by_cases z : n = 0
        · omega
        · have : (n : Int) ∈ ps := (a n).mpr ⟨by omega, by unfold iabs; split <;> omega⟩
          have := mem_ordM this
          rw [hm, rg1_mem] at this
          unfold iabs at this
          split at this <;> omega
      omega
    rw [hm, this]
theorem lp_ap {n : Nat} {ps : List Int} (h : lpRun n (ps.map .int) [] (ps.map .int) = true) : apRun n [] (ps.map .int) = true ∧ ps.length = 2 * n := by
  obtain ⟨a, b, e⟩ := lp_iff _ _ |>.mp h
  have b2 := ordS_fold [] ps
  rw [ordM_nil, List.nil_append] at b2
  rw [b2] at b
  have hn : ps.Nodup := List.nodup_iff_count.mpr fun x => by
    by_cases hx : x ∈ ps
    · have := (a x hx).2.2.1
      rw [cnt_ints] at this
      omega
    · rw [List.count_eq_zero_of_not_mem hx]; omega
  have key : ∀ ns met : List Int, met ++ ns = ps → apRun n met (ns.map .int) = true := by
    intro ns
    induction ns with
    | nil => intro met _; rfl
    | cons i ns ih =>
      intro met hm
      have hi : i ∈ ps := by rw [← hm]; simp
      obtain ⟨a1, a2, _, _⟩ := a i hi
      have hni : i ∉ met := fun z => by
        rw [← hm] at hn
        exact (List.nodup_append.mp hn).2.2 i z i List.mem_cons_self rfl
      rw [List.map_cons]
      unfold apRun
      rw [if_neg (by rintro (z | z | z); exact a1 z; exact hni z; omega), if_neg ?_]
      · exact ih (met ++ [i]) (by rw [← hm]; simp)
      · rintro ⟨h1, h2⟩
        refine h2 ?_
        have h3 : iabs i ∉ ordM met := fun z => by
          obtain ⟨x, hx, ex⟩ := ordM_mem z
          have : x = i ∨ x = -i := by unfold iabs at ex; split at ex <;> split at ex <;> omega
          rcases this with rfl | rfl
          · exact hni hx
          · exact h1 hx
        have e1 : ordM (met ++ [i]) = ordM met ++ [iabs i] := by rw [ordM_snoc, if_neg h3]
        obtain ⟨r, er⟩ := ordM_pre (met ++ [i]) ns
        rw [show (met ++ [i]) ++ ns = ps by rw [← hm]; simp, b, e1] at er
        have hlt : (ordM met).length < n := by
          have := congrArg List.length er
          rw [rg1_len] at this
          simp at this
          omega
        have g := rg1_get hlt
        rw [er] at g
        simp at g
        show iabs i = 1 + ((dd (met.map iabs)).length : Int)
        rw [g]; rfl
  exact ⟨key ps [] rfl, by rw [List.length_map] at e; omega⟩
theorem lifted_00 (ps : List Int) : liftedM ps 0 0 = [] := by unfold liftedM; simp
theorem drw_right (ps ts : List Int) : drwR ps ts = drwOk ps ts := by
  unfold drwR drwOk
  rw [inc_imax (sides_ne _ _), rowM_00]
  have : ∀ a b : Int, decide (a + 1 = b + 1) = decide (a = b) := fun a b => by
    by_cases h : a = b
    · subst h; simp
    · rw [decide_eq_false h, decide_eq_false (by omega)]
  exact this _ _
/-- the law's word and the program's are one -/
theorem right_eq {d : D} (h : ∀ ps ts, d = .tup [.tup ps, .tup ts] → ts.length ≤ 40) : rightM d = isDrw d := by
  by_cases h2 : ∃ ps ts, d = .tup [.tup ps, .tup ts]
  · obtain ⟨ps, ts, rfl⟩ := h2
    have h40 := h ps ts rfl
    have e0 : isDrw (.tup [.tup ps, .tup ts]) = (decide (ts.length ≤ 40) && (decide (ps.length = 2 * ts.length) && (apRun ts.length [] ps && (atRun ts && drwOk (intsD ps) (intsD ts))))) := rfl
    have e1 : rightM (.tup [.tup ps, .tup ts]) = (lpRun ts.length ps [] ps && (atRun ts && drwR (intsD ps) (intsD ts))) := rfl
    rw [e0, e1, decide_eq_true h40, Bool.true_and, drw_right, ← Bool.and_assoc (decide _)]
    congr 1
    rw [Bool.eq_iff_iff]
    constructor
    · intro z
      have ep := lp_ints _ _ z
      rw [ep] at z ⊢
      obtain ⟨q1, q2⟩ := lp_ap z
      rw [q1, List.length_map, decide_eq_true q2]; rfl
    · intro z
      rw [Bool.and_eq_true] at z
      have ep := apRun_ints _ _ z.2
      have hl : ps.length = 2 * ts.length := of_decide_eq_true z.1
      have z2 := z.2
      rw [ep] at z2 hl ⊢
      rw [List.length_map] at hl
      exact ap_lp z2 hl
  · have e1 : rightM d = false := by
      unfold rightM
      split
      · exact absurd ⟨_, _, rfl⟩ h2
      · rfl
    rw [e1]
    by_cases h3 : isDrw d = true
    · obtain ⟨ps, ts, e, _⟩ := isDrw_dr h3
      exact absurd ⟨_, _, e⟩ h2
    · simpa using h3
end Ov

/-! Plain: loops in a row are a drawing. -/
namespace Ov
open L2
section
variable {b : Nat → Bool}
def kx (b : Nat → Bool) (k : Nat) : Int := if b k = true then -((k : Int) + 1) else (k : Int) + 1
def krL (b : Nat → Bool) (k : Nat) : Nat → List Int
  | 0 => []
  | m + 1 => kx b k :: -kx b k :: krL b (k + 1) m
theorem kx_abs (k : Nat) : iabs (kx b k) = (k : Int) + 1 := by
  unfold kx iabs
  split <;> split <;> omega
theorem kx_ne (k : Nat) : kx b k ≠ 0 := by unfold kx; split <;> omega
theorem krL_snoc : ∀ m k, krL b k (m + 1) = krL b k m ++ [kx b (k + m), -kx b (k + m)]
  | 0, k => rfl
  | m + 1, k => by
    show kx b k :: -kx b k :: krL b (k + 1) (m + 1) = _
    rw [krL_snoc m (k + 1), show k + 1 + m = k + (m + 1) by omega]; rfl
theorem krL_len : ∀ m k, (krL b k m).length = 2 * m
  | 0, _ => rfl
  | m + 1, k => by
    show (krL b (k + 1) m).length + 1 + 1 = _
    rw [krL_len m (k + 1)]; omega
theorem krL_ev : ∀ m k i, i < m → (krL b k m).getD (2 * i) 0 = kx b (k + i) ∧ (krL b k m).getD (2 * i + 1) 0 = -kx b (k + i)
  | 0, _, _, h => absurd h (Nat.not_lt_zero _)
  | m + 1, k, 0, _ => ⟨rfl, rfl⟩
  | m + 1, k, i + 1, h => by
    have := krL_ev m (k + 1) i (by omega)
    rw [show k + 1 + i = k + (i + 1) by omega] at this
    exact this
theorem krL_mem : ∀ m k x, x ∈ krL b k m → ∃ i, i < m ∧ (x = kx b (k + i) ∨ x = -kx b (k + i))
  | 0, _, _, h => by cases h
  | m + 1, k, x, h => by
    rcases List.mem_cons.mp h with rfl | h
    · exact ⟨0, by omega, .inl rfl⟩
    · rcases List.mem_cons.mp h with rfl | h
      · exact ⟨0, by omega, .inr rfl⟩
      · obtain ⟨i, hi, e⟩ := krL_mem m (k + 1) x h
        rw [show k + 1 + i = k + (i + 1) by omega] at e
        exact ⟨i + 1, by omega, e⟩
theorem ap_kr (N : Nat) : ∀ m k met, (∀ x ∈ met, iabs x ≤ (k : Nat)) → (ordM met).length = k → k + m ≤ N → apRun N met ((krL b k m).map .int) = true
  | 0, _, _, _, _, _ => rfl
  | m + 1, k, met, h1, h2, h3 => by
    have a0 := kx_abs (b := b) k
    have n0 := kx_ne (b := b) k
    have nm : ∀ y : Int, iabs y = (k : Int) + 1 → y ∉ met := fun y hy hm => by
      have := h1 y hm
      omega
    show apRun N met (.int (kx b k) :: .int (-kx b k) :: (krL b (k + 1) m).map .int) = true
    unfold apRun
    rw [if_neg (by rintro (z | z | z); exact n0 z; exact nm _ a0 z; omega), if_neg ?_]
    · unfold apRun
      have an : iabs (-kx b k) = (k : Int) + 1 := by rw [iabs_neg, a0]
      rw [if_neg ?_, if_neg ?_]
      · refine ap_kr N m (k + 1) _ (fun x hx => ?_) ?_ (by omega)
        · rcases List.mem_append.mp hx with hx | hx
          · rcases List.mem_append.mp hx with hx | hx
            · have := h1 x hx; omega
            · rw [List.mem_singleton.mp hx, a0]; omega
          · rw [List.mem_singleton.mp hx, an]; omega
        · have hk : (k : Int) + 1 ∉ ordM met := fun z => by
            obtain ⟨x, hx, e⟩ := ordM_mem z
            exact nm x e hx
          rw [ordM_snoc, ordM_snoc, an, a0, if_neg hk, if_pos (by simp), List.length_append, h2]; rfl
      · rintro ⟨z, _⟩
        exact z (by simp)
      · rintro (z | z | z)
        · omega
        · rcases List.mem_append.mp z with z | z
          · exact nm _ an z
          · have := List.mem_singleton.mp z; omega
        · omega
    · rintro ⟨_, z⟩
      refine z ?_
      rw [a0]
      show (k : Int) + 1 = 1 + ((ordM met).length : Int)
      rw [h2]; omega
/-- turns 1 or -1 -/
def Pm (ts : List Int) : Prop := ∀ t ∈ ts, t = 1 ∨ t = -1
theorem pm_at : ∀ {ts : List Int}, Pm ts → atRun (ts.map .int) = true
  | [], _ => rfl
  | t :: ts, h => by
    rw [List.map_cons]
    unfold atRun
    have h1 := h t List.mem_cons_self
    rw [if_neg ?_]
    · exact pm_at fun x hx => h x (List.mem_cons_of_mem _ hx)
    · unfold iabs; rcases h1 with rfl | rfl <;> decide
/-- passes that are right, with turns: an arc -/
theorem dr_ar {ps ts : List Int} (h : apRun ts.length [] (ps.map .int) = true) (hl : ps.length = 2 * ts.length) (ht : Pm ts) : Ar (ps ++ [0]) (keptM ps ts 0 0) := by
  obtain ⟨a, b⟩ := passes_pair h hl
  have w := wf_00 h hl
  rw [rowM_00] at w
  refine ⟨?_, w, fun x hx h0 t e => ?_⟩
  · rw [List.nodup_append]
    refine ⟨b, by simp, fun x hx y hy => ?_⟩
    rw [List.mem_singleton.mp hy]
    exact ((a x).mp hx).1
  · have hx : x ∈ ps := by
      rcases List.mem_append.mp hx with hx | hx
      · exact hx
      · exact absurd (List.mem_singleton.mp hx) h0
    have hb := (a x).mp hx
    have hp := iabs_pos h0
    rw [kept_get hp hb.2] at e
    cases e
    have hl2 : (iabs x).toNat - 1 < ts.length := by omega
    exact ht _ (getD_mem hl2)
theorem dr_drw {ps ts : List Int} (h : apRun ts.length [] (ps.map .int) = true) (hl : ps.length = 2 * ts.length) (ht : Pm ts) (hf : (ts.length : Int) + 1 ≤ (sidesN (ps ++ [0]) (keptM ps ts 0 0)).2) : drwOk ps ts = true := by
  have A := dr_ar h hl ht
  obtain ⟨a, _⟩ := passes_pair h hl
  have hle := faces_le A (n := ts.length) fun x hx => by
    rcases List.mem_append.mp hx with hx | hx
    · exact ((a x).mp hx).2
    · rw [List.mem_singleton.mp hx]; unfold iabs; split <;> omega
  unfold drwOk
  rw [rowM_00, sides_imax (bey_perm A)]
  exact decide_eq_true (by omega)
theorem dr_is {ps ts : List Int} (h40 : ts.length ≤ 40) (h : apRun ts.length [] (ps.map .int) = true) (hl : ps.length = 2 * ts.length) (ht : Pm ts) (hf : (ts.length : Int) + 1 ≤ (sidesN (ps ++ [0]) (keptM ps ts 0 0)).2) : isDrw (drD ps ts) = true := by
  show (decide ((ts.map D.int).length ≤ 40) && (decide ((ps.map D.int).length = 2 * (ts.map D.int).length) && (apRun ((ts.map D.int).length : Nat) [] (ps.map .int) && (atRun (ts.map .int) && drwOk (intsD (ps.map .int)) (intsD (ts.map .int)))))) = true
  rw [List.length_map, List.length_map, intsD_map, intsD_map, h, pm_at ht, dr_drw h hl ht hf, decide_eq_true h40, decide_eq_true hl]; rfl
def labK (n : Nat) (row : List Int) (tn : List (Int × Int)) (h : Side) : Int := if h.1 % 2 = 1 ∧ h.1 < 2 * (n : Int) ∧ h.2 = epsM tn (row.getD h.1.toNat 0) then h.1 / 2 else -1
theorem kinks_lab {n : Nat} {tn : List (Int × Int)} (A : Ar (krL b 0 n ++ [0]) tn) : ∀ h, isSide (krL b 0 n ++ [0]).length h → labK n (krL b 0 n ++ [0]) tn (beyondM (krL b 0 n ++ [0]) tn (placesM (krL b 0 n ++ [0])) h) = labK n (krL b 0 n ++ [0]) tn h := by
  have hlen : (krL b 0 n ++ [0]).length = 2 * n + 1 := by rw [List.length_append, krL_len]; rfl
  have gev : ∀ k, k < n → (krL b 0 n ++ [0]).getD (2 * k) 0 = kx b k ∧ (krL b 0 n ++ [0]).getD (2 * k + 1) 0 = -kx b k := fun k hk => by
    have := krL_ev (b := b) n 0 k hk
    rw [Nat.zero_add] at this
    have hl := krL_len (b := b) n 0
    rw [app0_get (by omega), app0_get (by omega)]
    exact this
  have glast : (krL b 0 n ++ [0]).getD (2 * n) 0 = 0 := by
    have := app0_last (l := krL b 0 n)
    rw [krL_len] at this
    exact this
  generalize krL b 0 n ++ [0] = row at *
  have ie : ∀ k, k < n → row.idxOf (kx b k) = 2 * k := fun k hk => by
    rw [← (gev k hk).1]; exact idx_get A.nd (by omega)
  have io : ∀ k, k < n → row.idxOf (-kx b k) = 2 * k + 1 := fun k hk => by
    rw [← (gev k hk).2]; exact idx_get A.nd (by omega)
  have ev : ∀ (k : Nat) (w : Int), labK n row tn (2 * (k : Int), w) = -1 := fun k w => by
    unfold labK
    rw [if_neg (by simp only; omega)]
  have od : ∀ (k : Nat) (w : Int), k < n → labK n row tn (2 * (k : Int) + 1, w) = if w = -epsM tn (kx b k) then (k : Int) else -1 := fun k w hk => by
    unfold labK
    have e : (2 * (k : Int) + 1).toNat = 2 * k + 1 := by omega
    simp only [e]
    rw [(gev k hk).2, epsM_neg tn (kx_ne k)]
    by_cases h : w = -epsM tn (kx b k)
    · rw [if_pos ⟨by omega, by omega, h⟩, if_pos h]; omega
    · rw [if_neg (fun z => h z.2.2), if_neg h]
  have lst : ∀ w : Int, labK n row tn (2 * (n : Int) + 1, w) = -1 := fun w => by
    unfold labK
    rw [if_neg (by simp only; omega)]
  have ep : ∀ k, k < n → epsM tn (kx b k) = 1 ∨ epsM tn (kx b k) = -1 := fun k hk => by
    refine A.eps ?_ (kx_ne k)
    rw [← (gev k hk).1]
    exact get_mem (by omega)
  intro h hs
  rw [bey_all A hs]
  rcases side_kind hs with ⟨i, hi, rfl⟩ | ⟨i, hi, rfl⟩ | rfl | rfl
  · rw [bey_up hi]
    have hi2 : i = 2 * n ∨ ∃ k, k < n ∧ (i = 2 * k ∨ i = 2 * k + 1) := by
      by_cases z : i = 2 * n
      · exact .inl z
      · exact .inr ⟨i / 2, by omega, by omega⟩
    rcases hi2 with rfl | ⟨k, hk, rfl | rfl⟩
    · rw [if_pos (.inl glast)]
      push_cast
      rw [lst, ev]
    · rw [(gev k hk).1, io k hk, if_neg (by rintro (z | z); exact kx_ne k z; omega)]
      push_cast
      rw [ev]
      rcases ep k hk with e | e
      · rw [if_pos e]
        have := ev (k + 1) 1
        rw [show 2 * (k : Int) + 1 + 1 = 2 * ((k + 1 : Nat) : Int) by omega]
        exact this
      · rw [if_neg (by omega), od k _ hk, if_neg (by omega)]
    · rw [(gev k hk).2, show -(-kx b k) = kx b k by omega, ie k hk, epsM_neg tn (kx_ne k), if_neg (by rintro (z | z); have := kx_ne (b := b) k; omega; omega)]
      push_cast
      rcases ep k hk with e | e
      · rw [if_neg (by omega), ev, od k _ hk, if_neg (by omega)]
      · rw [if_pos (by omega)]
  · rw [bey_dn hi]
    have hi2 : i = 2 * n ∨ ∃ k, k < n ∧ (i = 2 * k ∨ i = 2 * k + 1) := by
      by_cases z : i = 2 * n
      · exact .inl z
      · exact .inr ⟨i / 2, by omega, by omega⟩
    rcases hi2 with rfl | ⟨k, hk, rfl | rfl⟩
    · rw [if_pos (.inl glast)]
      push_cast
      rw [lst, ev]
    · rw [(gev k hk).1, io k hk, if_neg (by rintro (z | z); exact kx_ne k z; omega)]
      push_cast
      rcases ep k hk with e | e
      · rw [if_neg (by omega)]
      · rw [if_pos e, od k _ hk, if_neg (by omega)]
        have := ev (k + 1) 1
        rw [show 2 * (k : Int) + 1 + 1 = 2 * ((k + 1 : Nat) : Int) by omega]
        exact this
    · rw [(gev k hk).2, show -(-kx b k) = kx b k by omega, ie k hk, epsM_neg tn (kx_ne k), if_neg (by rintro (z | z); have := kx_ne (b := b) k; omega; omega)]
      push_cast
      rw [show 2 * (k : Int) + 1 + 1 = 2 * ((k + 1 : Nat) : Int) by omega, ev (k + 1)]
      rcases ep k hk with e | e
      · rw [if_pos (by omega), od k _ hk, if_neg (by omega)]
      · rw [if_neg (by omega), ev]
  · rw [bey_end, hlen]
    push_cast
    rw [lst, lst]
  · rw [bey_beg]
    have a := ev 0 1
    have c := ev 0 (-1)
    exact a.trans c.symm
theorem kinks_is {n : Nat} {ts : List Int} (h40 : n ≤ 40) (hl : ts.length = n) (ht : Pm ts) : isDrw (drD (krL b 0 n) ts) = true := by
  subst hl
  have hap : apRun ts.length [] ((krL b 0 ts.length).map .int) = true := ap_kr ts.length ts.length 0 [] (fun x hx => by cases hx) rfl (by omega)
  have hlen := krL_len (b := b) ts.length 0
  have A := dr_ar hap hlen ht
  refine dr_is h40 hap hlen ht ?_
  have hl2 : (krL b 0 ts.length ++ [0]).length = 2 * ts.length + 1 := by rw [List.length_append, krL_len]; rfl
  have := faces_ge A (labK ts.length (krL b 0 ts.length ++ [0]) (keptM (krL b 0 ts.length) ts 0 0)) (kinks_lab A) ((-1 : Int) :: (List.range ts.length).map fun i : Nat => (i : Int)) ?_ fun y hy => ?_
  · rw [List.length_cons, List.length_map, List.length_range] at this
    push_cast at this
    exact this
  · refine List.nodup_cons.mpr ⟨fun z => ?_, ?_⟩
    · obtain ⟨i, _, e⟩ := List.mem_map.mp z
      omega
    · exact nodup_map_of List.nodup_range fun x _ y _ e => by omega
  · rcases List.mem_cons.mp hy with rfl | hy
    · refine ⟨(0, 1), ⟨by simp, by simp only; omega, .inl rfl⟩, ?_⟩
      unfold labK
      rw [if_neg (by simp)]
    · obtain ⟨i, hi, rfl⟩ := List.mem_map.mp hy
      have hi := List.mem_range.mp hi
      have hm : 2 * i + 1 < (krL b 0 ts.length ++ [0]).length := by omega
      have ge := krL_ev (b := b) ts.length 0 i hi
      have e0 : (krL b 0 ts.length ++ [0]).getD (2 * i + 1) 0 = -kx b (0 + i) := by rw [app0_get (by omega)]; exact ge.2
      have ep := A.eps (get_mem (row := krL b 0 ts.length ++ [0]) hm) (by rw [e0]; have := kx_ne (b := b) (0 + i); omega)
      refine ⟨(2 * (i : Int) + 1, epsM (keptM (krL b 0 ts.length) ts 0 0) ((krL b 0 ts.length ++ [0]).getD (2 * i + 1) 0)), ⟨by simp only; omega, by simp only; omega, ep⟩, ?_⟩
      unfold labK
      have e : (2 * (i : Int) + 1).toNat = 2 * i + 1 := by omega
      simp only [e]
      rw [if_pos ⟨by omega, by omega, trivial⟩]
      omega
theorem kinks_no {ps : List Int} {ts : List Int} (h : 40 < ts.length) : isDrw (drD ps ts) = false := by
  show (decide ((ts.map D.int).length ≤ 40) && _) = false
  rw [List.length_map, decide_eq_false (by omega), Bool.false_and]
end
end Ov

/-! D-layer: in for any data, chains of three, max with a default, dicts of the written part, arcs that change. -/
namespace L2
open PySem PySem.Spec PyProof.Rows
section
variable {X : Cx}
def rInTD (K : PySem.W.Frag) (neg : Bool) : R2 := fun x y H Q => ∃ d ds, Dp K H x d ∧ Dp K H y (.tuple ds) ∧ SeqAt.shaped d = true ∧ SeqAt.shaped (.tuple ds) = true ∧ Q (.bl (if neg then !(ds.any fun z => PyData.eqv z d) else ds.any fun z => PyData.eqv z d)) H
theorem plain_tup {ds : List PyData} (h : SeqAt.shaped (.tuple ds) = true) : PyData.plainAll ds = true := PyData.plainAll_of_canLay0 _ (SeqAt.canLay_of_shaped h)
theorem op_inTD (hu : X.A.units + 65 < cLine) : OpR X (compareOp .In) (rInTD X.K false) := by
  intro pins s σ H x y v u Q I rx ry ⟨d, ds, hd, he, sd, se, q⟩
  obtain ⟨as, r1⟩ := Dp.reads I d x v hd rx
  obtain ⟨bs, r2⟩ := Dp.reads I (.tuple ds) y u he ry
  exact SeqAt.in_tuple_data r2 r1 (plain_tup se) (PyData.plain_of_canLay0 _ (SeqAt.canLay_of_shaped sd)) (room_in_shaped sd hu) ⟨.bl _, H, I, rfl, q⟩
theorem op_notInTD (hu : X.A.units + 65 < cLine) : OpR X (compareOp .NotIn) (rInTD X.K true) := by
  intro pins s σ H x y v u Q I rx ry ⟨d, ds, hd, he, sd, se, q⟩
  obtain ⟨as, r1⟩ := Dp.reads I d x v hd rx
  obtain ⟨bs, r2⟩ := Dp.reads I (.tuple ds) y u he ry
  exact SeqAt.notIn_tuple_data r2 r1 (plain_tup se) (PyData.plain_of_canLay0 _ (SeqAt.canLay_of_shaped sd)) (room_in_shaped sd hu) ⟨.bl _, H, I, rfl, q⟩
/-- a <= b <= c <= d -/
def tLe3 (ta tb tc td : TE) : TT := fun σ H Q => ta σ H fun x H1 => tb σ H1 fun y H2 => ∃ i j, x = .int i ∧ y = .int j ∧
  (if i ≤ j then tc σ H2 fun w H3 => ∃ l, w = .int l ∧ (if j ≤ l then td σ H3 fun z H4 => ∃ n, z = .int n ∧ Q (decide (l ≤ n)) H4 else Q false H3) else Q false H2)
variable {a b cc d : Expr} {ta tb tc td : TE} {pos : Pos}
theorem pt_le3 (ha : PE X a ta) (hb : PE X b tb) (hc : PE X cc tc) (hd : PE X d td) (hm : lastMarks [.LtE, .LtE, .LtE] [b, cc, d] = false := by with_unfolding_all rfl) :
    PT X (.Compare a [.LtE, .LtE, .LtE] [b, cc, d] pos) (tLe3 ta tb tc td) := by
  constructor
  intro pins s σ H Q I h
  refine isTrue_chain (thn (ha.run pins s σ H _ I h) fun v s1 ⟨x, H1, I1, r1, q1⟩ => test_link (thn (hb.run pins s1 σ H1 _ I1 q1) fun u s2 ⟨y, H2, I2, r2, i, j, ex, ey, q2⟩ => ?_)) hm
  subst ex ey
  refine thn (op_le pins s2 σ H2 (.int i) (.int j) v u (fun z H => z = V.bl (decide (i ≤ j)) ∧ H = H2) I2 r1 r2 ⟨i, j, rfl, rfl, rfl, rfl⟩) fun t s3 ⟨z, H3, I3, r3, e3, e4⟩ => ?_
  subst e3 e4
  cases r3
  refine wpAny_truthy_bool ?_
  by_cases hij : i ≤ j
  · rw [decide_eq_true hij]
    rw [if_pos hij] at q2
    refine ite_tt (test_link (thn (hc.run pins s3 σ _ _ I3 q2) fun u' s4 ⟨y', H4, I4, r4, l, el, q4⟩ => ?_))
    subst el
    refine thn (op_le pins s4 σ H4 (.int j) (.int l) u u' (fun z H => z = V.bl (decide (j ≤ l)) ∧ H = H4) I4 r2 r4 ⟨j, l, rfl, rfl, rfl, rfl⟩) fun t s5 ⟨z, H5, I5, r5, e5, e6⟩ => ?_
    subst e5 e6
    cases r5
    refine wpAny_truthy_bool ?_
    by_cases hjl : j ≤ l
    · rw [decide_eq_true hjl]
      rw [if_pos hjl] at q4
      refine ite_tt (test_last (thn (hd.run pins s5 σ _ _ I5 q4) fun u3 s6 ⟨y3, H6, I6, r6, n, en, q6⟩ => ?_))
      subst en
      refine thn (op_le pins s6 σ H6 (.int l) (.int n) u' u3 (fun z H => z = V.bl (decide (l ≤ n)) ∧ H = H6) I6 r4 r6 ⟨l, n, rfl, rfl, rfl, rfl⟩) fun t s7 ⟨z, H7, I7, r7, e7, e8⟩ => ?_
      subst e7 e8
      cases r7
      exact wpAny_truthy_bool ⟨_, I7, q6⟩
    · rw [decide_eq_false hjl]
      rw [if_neg hjl] at q4
      exact ite_ff ⟨_, I5, q4⟩
  · rw [decide_eq_false hij]
    rw [if_neg hij] at q2
    exact ite_ff ⟨_, I3, q2⟩
end
end L2
namespace Ov
open PySem L2 PySem.Spec PyProof.Rows
theorem units2 {k : Nat} {A : Around} (r : Room k A) : A.units + 65 < cLine := by have := r.un; omega
theorem pydAll_map : ∀ ds : List D, pydAll ds = ds.map pyd
  | [] => rfl
  | d :: ds => by rw [pydAll, pydAll_map ds]; rfl
section
variable {X : Cx} {c : Cc} {δ : List Sl} {e a b cc dx x : Expr} {p pos : Pos} {m m1 m2 m3 m4 : Mo} {d : D} {ds : List D}
theorem any_pyd (d : D) (ds : List D) : ((pydAll ds).any fun z => PyData.eqv z (pyd d)) = inD d ds := by
  rw [pydAll_map, List.any_map]; rfl
theorem o_inTD (hu : X.A.units + 65 < cLine) (hK : X.K = c.K) (h1 : fl 8 d = true) (h2 : fl 8 (.tup ds) = true) : Op2 X c (compareOp .In) m1 d m2 (.tup ds) .val (.bl (inD d ds)) :=
  ⟨_, op_inTD hu, fun δ S σ x y g r1 r2 Q q => ⟨pyd d, pydAll ds, hK ▸ Re.dp' 8 d x h1 (Good.now g.toGoodH r1), hK ▸ Re.dp' 8 (.tup ds) y h2 (Good.now g.toGoodH r2), fl_shaped (by decide) h1, fl_shaped (d := .tup ds) (by decide) h2, by
    rw [any_pyd]; exact q _ S (Le.refl c S) g (.bl _)⟩⟩
theorem o_ninTD (hu : X.A.units + 65 < cLine) (hK : X.K = c.K) (h1 : fl 8 d = true) (h2 : fl 8 (.tup ds) = true) : Op2 X c (compareOp .NotIn) m1 d m2 (.tup ds) .val (.bl (!inD d ds)) :=
  ⟨_, op_notInTD hu, fun δ S σ x y g r1 r2 Q q => ⟨pyd d, pydAll ds, hK ▸ Re.dp' 8 d x h1 (Good.now g.toGoodH r1), hK ▸ Re.dp' 8 (.tup ds) y h2 (Good.now g.toGoodH r2), fl_shaped (by decide) h1, fl_shaped (d := .tup ds) (by decide) h2, by
    rw [any_pyd]; exact q _ S (Le.refl c S) g (.bl _)⟩⟩
theorem o_ninLD (hu : X.A.units + 65 < cLine) (hK : X.K = c.K) (h1 : fl 8 d = true) (h2 : fl 8 (.lst ds) = true) : Op2 X c (compareOp .NotIn) m1 d m2 (.lst ds) .val (.bl (!inD d ds)) :=
  ⟨_, op_notInD hu, fun δ S σ x y g r1 r2 Q q => ⟨pyd d, pydAll ds, hK ▸ Re.dp' 8 d x h1 (Good.now g.toGoodH r1), hK ▸ Re.dp' 8 (.lst ds) y h2 (Good.now g.toGoodH r2), fl_shaped (by decide) h1, fl_shaped (d := .lst ds) (by decide) h2, by
    rw [any_pyd]; exact q _ S (Le.refl c S) g (.bl _)⟩⟩
theorem dt_le3 {i j l n : Int} (ha : DE X c m1 δ a (.int i)) (hb : DE X c m2 δ b (.int j)) (hc : DE X c m3 δ cc (.int l)) (hd : DE X c m4 δ dx (.int n)) (hm : lastMarks [.LtE, .LtE, .LtE] [b, cc, dx] = false := by with_unfolding_all rfl) :
    DT X c δ (.Compare a [.LtE, .LtE, .LtE] [b, cc, dx] pos) (decide (i ≤ j) && (decide (j ≤ l) && decide (l ≤ n))) :=
  DT.mkE ha.k (pt_le3 ha.nf.pe hb.nf.pe hc.nf.pe hd.nf.pe hm) fun S σ g Q q => ⟨S, rfl, g, fun x S1 l1 g1 r1 => ⟨S1, rfl, g1, fun y S2 l2 g2 r2 => by
    refine ⟨i, j, r1.intI, r2.intI, ?_⟩
    by_cases hij : i ≤ j
    · rw [if_pos hij]
      rw [decide_eq_true hij, Bool.true_and] at q
      refine ⟨S2, rfl, g2, fun w S3 l3 g3 r3 => ⟨l, r3.intI, ?_⟩⟩
      by_cases hjl : j ≤ l
      · rw [if_pos hjl]
        rw [decide_eq_true hjl, Bool.true_and] at q
        exact ⟨S3, rfl, g3, fun z S4 l4 g4 r4 => ⟨n, r4.intI, q S4 (((l1.trans l2).trans l3).trans l4) g4⟩⟩
      · rw [if_neg hjl]
        rw [decide_eq_false hjl, Bool.false_and] at q
        exact q S3 ((l1.trans l2).trans l3) g3
    · rw [if_neg hij]
      rw [decide_eq_false hij, Bool.false_and] at q
      exact q S2 (l1.trans l2) g2⟩⟩
/-- D["text"], D a dict of the written part -/
theorem de_kd {z : Str} {y : Str} {i : Int} {A : Addr} (hg : Gl X y) (hm : X.mg y = some (.ref A)) (he : DE X c m δ e (.str z)) (kd : KDct X.K X.w A z (.int i)) (hp : PlainIx e) (hd : (y == ("__debug__" : Str)) = false := by decide) : DE X c .val δ (.Subscript (.Name y p) e pos) (.int i) :=
  DE.mkE he.k (pe_ix ix_kdict (pe_glob hg hm (v := .ref A) rfl hd) he.nf.pe hp) fun S σ g Q q => ⟨S, rfl, g, fun v S1 l1 g1 r1 => by
    have e : v = .str z := by
      have := Good.now g1.toGoodH r1
      cases this; rfl
    exact ⟨A, z, .int i, rfl, e, kd, q _ S1 l1 g1 (.int i)⟩⟩
end
end Ov

/-! D-layer: max(d, default=i); an Arc that is changed by a method of its own. -/
namespace Ov
open PySem L2 PySem.Spec PyProof.Rows PySem.W
/-- max of the keys, or one more thing -/
def tMaxDf (t tk : TA) : TE := fun σ H Q => t σ H fun xs H1 => tk σ H1 fun zs H2 => ∃ (a : Addr) (kvs : List (Int × V)) (i : Int), xs = [.ref a] ∧ zs = [.int i] ∧ H2 a = some (.dK (kkv kvs)) ∧ Q (.int (if kvs = [] then i else imax (kvs.map (·.1)))) H2
theorem max_keys {X : Cx} {pins : List (Addr × Obj)} {σ : L2.St} {H : Hp} {s : Shared} {Q : VK} {a : Addr} {i : Int} {t0 : Tok} {kvs : List (Int × V)} (hc : X.calm = true) (I : L2.Inv X pins σ H s) (ha : H a = some (.dK (kkv kvs))) (q : Q (.int (if kvs = [] then i else imax (kvs.map (·.1)))) H) :
    wpAny (model X.prog X.w) X.A (call (.builtin "max") [.ref a] [(Str.ofString "default", .int i t0)]) (EP X pins σ Q) X.xe s := by
  obtain ⟨hsz, hsm, vs, kv, hD⟩ := dk_of I.hok ha
  obtain ⟨es, ep, hraw, hes, hat⟩ := Heap.DictOf.raw hD
  have hlen : kvs.length = vs.length := by
    have := Paired.length kv
    rw [List.length_map] at this
    exact this
  have hP : ∀ (j : Nat) (v : Value), (∃ hi : j < es.size, v = es[j].key) → ∃ t, v = .int ((kvs.map (·.1)).getD j 0) t := by
    rintro j v ⟨hj, rfl⟩
    have hj2 : j < kvs.length := by omega
    obtain ⟨u, hu, _⟩ := L2.kv_get kv (i := j) (k := Sum.inl kvs[j].1) (v := kvs[j].2) (by rw [List.getElem?_map, List.getElem?_eq_getElem hj2]; rfl)
    obtain ⟨hk, _⟩ := hat j hj _ _ hu
    have hg : (kvs.map (·.1)).getD j 0 = kvs[j].1 := by rw [List.getD_eq_getElem?_getD, List.getElem?_map, List.getElem?_eq_getElem hj2]; rfl
    rw [hg]
    rcases keyIs_shape (show keyIs (Sum.inl kvs[j].1) es[j].key = true from hk) with ⟨n, t, e1, e2⟩ | ⟨x, t, e1, e2⟩
    · cases e1; exact ⟨t, e2⟩
    · cases e1
  have hpos : a < s.heap.objs.size := let ⟨_, ho, _⟩ := hraw; Heap.lt_size ho
  refine call_max_walkD (wpAny_pyIter_dict_raw hsm hraw ?_)
  refine ⟨s.heap.objs.size, [s.heap.objs.size, a], [s.heap.objs.size], _, es.size, _, _, s.heap, fun x y => decide ((kvs.map (·.1)).getD x 0 > (kvs.map (·.1)).getD y 0), rfl,
    (Walks.rawKeys (show X.A.in1.handled = none from I.ok.hd hc) _ a (Nat.ne_of_lt hpos) es ep).toS, ⟨⟨_, Heap.get?_push_size _ rfl, rfl, rfl⟩, hraw.at fun o e => Heap.get?_push_of_some _ e⟩, fun b hb => ?_, fun b o e hb => ?_, fun b o e => Heap.get?_push_of_some _ e, fun hz s' m => ?_, fun hp => ⟨fun x y vi vj s' Q' E' _ hi hj h' => CmpOf.ints_gt (fun j => (kvs.map (·.1)).getD j 0) hP x y vi vj s' Q' E' hi hj h', fun v s' hv m => ?_⟩⟩
  · show b < (Heap.push s.heap _).objs.size
    rw [size_push']
    rcases List.mem_cons.mp hb with z | z
    · subst z; exact Nat.lt_succ_self _
    · have := List.mem_singleton.mp z; subst this; exact Nat.lt_succ_of_lt hpos
  · exact absurd (Heap.lt_size e) ((List.mem_singleton.mp hb) ▸ Nat.lt_irrefl _)
  · obtain ⟨h', tk, rfl, hk'⟩ := moved_old rfl rfl m
    have he : kvs = [] := List.eq_nil_of_length_eq_zero (by omega)
    rw [if_pos he] at q
    exact ⟨.int i, H, I.kept (t' := tk) hk', ⟨t0, rfl⟩, q⟩
  · obtain ⟨h', tk, rfl, hk'⟩ := moved_old rfl rfl m
    obtain ⟨t, rfl⟩ := hP _ _ hv
    have he : kvs ≠ [] := fun z => by rw [z] at hlen; simp at hlen; omega
    rw [if_neg he] at q
    have hl2 : (kvs.map (·.1)).length = es.size := by rw [List.length_map]; omega
    obtain ⟨m1', m2'⟩ := argBest_gt (fun j => (kvs.map (·.1)).getD j 0) (es.size - 1)
    have m1 : argBest (fun x y => decide ((kvs.map (·.1)).getD x 0 > (kvs.map (·.1)).getD y 0)) (es.size - 1) ≤ es.size - 1 := m1'
    have m2 : ∀ j, j ≤ es.size - 1 → (kvs.map (·.1)).getD j 0 ≤ (kvs.map (·.1)).getD (argBest (fun x y => decide ((kvs.map (·.1)).getD x 0 > (kvs.map (·.1)).getD y 0)) (es.size - 1)) 0 := m2'
    have em : (kvs.map (·.1)).getD (argBest (fun x y => decide ((kvs.map (·.1)).getD x 0 > (kvs.map (·.1)).getD y 0)) (es.size - 1)) 0 = imax (kvs.map (·.1)) := by
      refine imax_eq (Ov.getD_mem (by omega)) fun y hy => ?_
      obtain ⟨j, hj, e⟩ := List.mem_iff_getElem.mp hy
      have z := m2 j (by omega)
      have e3 : (kvs.map (·.1)).getD j 0 = y := by rw [List.getD_eq_getElem?_getD, List.getElem?_eq_getElem hj, ← e] <;> rfl
      rw [e3] at z
      exact z
    exact ⟨.int _, H, I.kept (t' := tk) hk', ⟨t, rfl⟩, em ▸ q⟩
theorem pe_maxDf {X : Cx} {e d : Expr} {t tk : TA} {p kp pos : Pos} (hc : X.calm = true) (hg : Gl X "max") (hm : X.mg "max" = none) (he : PA X [e] t) (hd : PK X [⟨some "default", d, kp⟩] tk)
    (he2 : backTo pos (starEach [e] X.env) = (false, eval e X.env) :: backTo pos (starEach [] X.env) := by rfl)
    (hpl : (backTo pos (starEach [e] X.env)).any (·.1) = false := by rfl) :
    PE X (.Call (.Name "max" p) [e] [⟨some "default", d, kp⟩] pos) (tMaxDf t tk) := by
  constructor
  intro pins s σ H Q I h
  refine wpAny_Call_Name_kw (ld_blt I hg hm boot_max ?_ (by decide) (by decide))
  refine PyProof.Rows.callWith_kw (thn (he.run pos pins s σ H _ I h) fun us s1 ⟨vs, H1, I1, r1, q1⟩ => thn (hd.run pos pins s1 σ H1 _ I1 q1) fun ws s2 ⟨zs, H2, I2, r2, a, kvs, i, ex, ei, hd2, q2⟩ => ?_) he2 hpl
  subst ex ei
  obtain ⟨u, rfl, ru⟩ := r1.one
  obtain ⟨w, rfl, t0, rfl⟩ := r2.one
  cases ru
  exact max_keys hc I2 hd2 q2
end Ov

/-! D-layer: arc.cross(..) of an Arc of one's own. -/
namespace Ov
open PySem L2 PySem.Spec PyProof.Rows
/-- more than one thing of a slot changes -/
theorem Good.mutAll {c : Cc} {S : G} {σ : L2.St} {δ : List Sl} (g : Good c S σ δ) {i : Nat} {d' : D} {v : V} {H' : Hp} (hi : i < δ.length) (hk : ∀ b, Ow c S (some i) b ∨ H' b = S.h b) (hv : σ[i]? = some (some v))
    (r : ReO c ⟨S.own, S.b, H'⟩ (some i) v d') : Good c ⟨S.own, S.b, H'⟩ σ (δ.set i (.own d')) where
  toGoodH := ⟨fun b o e => by
      rcases hk b with w | z
      · rw [w.h0] at e; cases e
      · exact z.trans (g.ex0 b o e), fun b o e => by
      rcases hk b with w | z
      · rw [w.b] at e; cases e
      · exact z.trans (g.exb b o e), g.exi, g.fr⟩
  len := by rw [List.length_set]; exact g.len
  sl := fun j s h => by
    by_cases e : j = i
    · subst e
      rw [List.getElem?_set_self hi] at h
      cases h
      exact ⟨v, hv, r⟩
    · rw [List.getElem?_set_ne (Ne.symm e)] at h
      have q := g.sl j s h
      cases s with
      | any => trivial
      | val d => exact q
      | bor d => exact q
      | own d =>
        obtain ⟨v, h1, r⟩ := q
        refine ⟨v, h1, ?_⟩
        have kp : ∀ {x u}, Ow c S (some j) x → S.h x = some u → H' x = some u := fun {x u} w' e2 => by
          rcases hk x with w | z
          · have := w'.own.symm.trans w.own
            cases this; exact absurd rfl e
          · exact z.trans e2
        have ow : ∀ {x}, Ow c S (some j) x → Ow c ⟨S.own, S.b, H'⟩ (some j) x := fun w' => ⟨w'.own, w'.b, w'.h0⟩
        cases r with
        | lst w' e r => exact .lst (ow w') (kp w' e) r
        | dk w' e => exact .dk (ow w') (kp w' e)
        | dp w' e => exact .dp (ow w') (kp w' e)
        | arc w1 w2 w3 w4 e0 e1 e2 e3 => exact .arc (ow w1) (ow w2) (ow w3) (ow w4) (kp w2 e0) (kp w1 e1) (kp w3 e2) (kp w4 e3)
/-- the next crossing's number -/
def newN (tn : List (Int × Int)) : Int := (if tn = [] then 0 else imax (tn.map (·.1))) + 1
def crossRow (row : List Int) (tn : List (Int × Int)) (gap sign : Int) : List Int := (row.take gap.toNat ++ [-sign * newN tn] ++ row.drop gap.toNat) ++ [sign * newN tn]
def crossTn (tn : List (Int × Int)) (way sign : Int) : List (Int × Int) := dput tn (newN tn) (sign * way)
structure CrOk (row : List Int) (tn : List (Int × Int)) (gap way sign : Int) : Prop where
  lo : 0 ≤ gap
  hi : gap < 2 ^ 63
  row : row.length < 1000
  tn : tn.length < 1000
  sg : sign = 1 ∨ sign = -1
  wy : way = 1 ∨ way = -1
/-- what Arc.cross does -/
def spCross (C : Addr) : Sp := fun vs H Q _ => ∃ (x dx p q : Addr) (row : List Int) (tn : List (Int × Int)) (old gap way sign : Int), vs = [.ref x, .int gap, .int way, .int sign] ∧ H x = some (.ins C dx [("row", .ref p), ("turns", .ref q), ("old", .int old)]) ∧ H p = some (.lst (row.map V.int)) ∧ H q = some (.dK (kkv (iv tn))) ∧
  CrOk row tn gap way sign ∧
  ∀ H', H' x = some (.ins C dx [("row", .ref p), ("turns", .ref q), ("old", .int (old + 1))]) → H' p = some (.lst ((crossRow row tn gap sign).map V.int)) → H' q = some (.dK (kkv (iv (crossTn tn way sign)))) →
    (∀ b, b ≠ x → b ≠ p → b ≠ q → H' b = H b) → Q .non H'
section
variable {X : Cx} {W : WX} {c : Cc} {δ : List Sl} {e1 e2 e3 : Expr} {pos p1 p2 apos : Pos} {m1 m2 m3 : Mo} {y : Str} {f : Addr} {fd : FuncData} {k i : Nat} {row : List Int} {tn : List (Int × Int)} {old gap way sign : Int} {Φ : Po}
theorem ds_cross {pl : Sem Bool} (hx : X.N[i]? = some y) (hv : Vis X.env.scope y) (hs : δ[i]? = some (.own (.arc row tn old))) (hc : Cls X.K c.C) (hme : Meth X.K c.C "cross" f) (F : FnOk X.prog X.w X.K X.mg X.base (L2.CX X.prog X.w) k f fd ["self", "gap", "way", "sign"] (spCross c.C)) (hr : Room k X.A) (hb : Binds X.K fd ["self", "gap", "way", "sign"] [])
    (ha : DA X c δ [e1, e2, e3] [(m1, .int gap), (m2, .int way), (m3, .int sign)]) (ok : CrOk row tn gap way sign) (hn : Φ.nx (δ.set i (.own (.arc (crossRow row tn gap sign) (crossTn tn way sign) (old + 1)))))
    (hst : starEach [e1, e2, e3] X.env = (false, eval e1 X.env) :: starEach [e2, e3] X.env := by rfl) (hpl : (backTo p2 (starEach [e2, e3] X.env)).any (·.1) = false := by rfl)
    (ht : eval (.Call (.Attribute (.Name y p1) "cross" apos) [e1, e2, e3] [] p2) X.env = (do
      let ov ← eval (.Name y p1) X.env
      standAt apos.atName
      let (f, first) ← holding [ov] (getMethod ov "cross" pl)
      callWith p2 f first (backTo p2 (starEach [e1, e2, e3] X.env)) (backToKw p2 (keywordEach [] X.env))) := by rfl)
    (hsw : swapsWith (.Call (.Attribute (.Name y p1) "cross" apos) [e1, e2, e3] [] p2) none pos.line X.env = pure false := by rfl) (hy : (y == ("__debug__" : Str)) = false := by decide) (hy2 : (y == ("__classdict__" : Str)) = false := by decide) :
    DS X W c δ (.Expr (.Call (.Attribute (.Name y p1) "cross" apos) [e1, e2, e3] [] p2) pos) Φ :=
  DS.mkE ha.k (ps_expr (pe_meth (pe_var hx hv hy hy2) hc hme F hr hb .nil passL ha.pa hst hpl ht) hsw) fun S σ g D q1 _ _ _ _ => by
    obtain ⟨v, h1, r⟩ := g.sl i _ hs
    have hi : i < δ.length := (List.getElem?_eq_some_iff.mp hs).1
    cases r with
    | @arc a dx p q _ _ _ w1 w2 w3 w4 h0 ha' hp hq =>
      refine ⟨.ref a, h1, a, dx, _, rfl, ha', rfl, S, rfl, g, fun vs S1 l1 g1 r1 => ?_⟩
      show spCross c.C (.ref a :: (vs ++ [])) S1.h _ E0
      rw [List.append_nil]
      have ev : vs = [.int gap, .int way, .int sign] := by
        cases r1 with
        | cons a1 r1 =>
          cases r1 with
          | cons a2 r1 =>
            cases r1 with
            | cons a3 r1 =>
              cases r1
              rw [a1.intI, a2.intI, a3.intI]
      subst ev
      refine ⟨a, dx, p, q, row, tn, old, gap, way, sign, rfl, l1.h _ _ ha', l1.h _ _ hp, l1.h _ _ hq, ok, fun H' k1 k2 k3 k4 => ?_⟩
      have u1 := w1.le l1 (ne_some ha')
      have u2 := w2.le l1 (ne_some h0)
      have u3 := w3.le l1 (ne_some hp)
      have u4 := w4.le l1 (ne_some hq)
      have nda : dx ≠ a := ne_of h0 ha' (by intro z; cases z)
      have ndp : dx ≠ p := ne_of h0 hp (by intro z; cases z)
      have ndq : dx ≠ q := ne_of h0 hq (by intro z; cases z)
      refine q1 ⟨S1.own, S1.b, H'⟩ σ _ l1.b (g1.mutAll hi (fun b => ?_) h1 (.arc (dx := dx) ⟨u1.own, u1.b, u1.h0⟩ ⟨u2.own, u2.b, u2.h0⟩ ⟨u3.own, u3.b, u3.h0⟩ ⟨u4.own, u4.b, u4.h0⟩ ((k4 dx nda ndp ndq).trans (l1.h _ _ h0)) k1 k2 k3)) hn
      by_cases z1 : b = a
      · subst z1; exact .inl u1
      · by_cases z2 : b = p
        · subst z2; exact .inl u3
        · by_cases z3 : b = q
          · subst z3; exact .inl u4
          · exact .inr (k4 b z1 z2 z3)
end
end Ov

/-! Plain: arcs that are laid on. -/
namespace Ov
open L2
/-- two sides of one face -/
def sameF (row : List Int) (tn : List (Int × Int)) (x y : Side) : Bool := decide (dget (sidesM row tn) x = dget (sidesM row tn) y)
def openG (row : List Int) (tn : List (Int × Int)) (g : Nat) : List Side := ([((g : Int), 1), ((g : Int), -1)] : List Side).filter fun s => sameF row tn s ((row.length : Int), 1)
def openM (row : List Int) (tn : List (Int × Int)) (n : Nat) : List Side := (List.range (n + 1)).flatMap (openG row tn)
def meetsM (row : List Int) (tn : List (Int × Int)) : Bool := sameF row tn ((row.length : Int), 1) (0, -1)
abbrev Ast := List Int × List (Int × Int) × Nat
def crossA (sg : Int) (a : Ast) (s : Side) : Ast := (crossRow a.1 a.2.1 s.1 sg, crossTn a.2.1 s.2 sg, a.2.2 + 1)
def layA (sg : Int) (a : Ast) (way : List Side) : Ast := way.foldl (crossA sg) a
def openA (a : Ast) : List Side := openM a.1 a.2.1 a.2.2
def WayOk (sg : Int) : Ast → List Side → Prop
  | _, [] => True
  | a, s :: w => s ∈ openA a ∧ WayOk sg (crossA sg a s) w
theorem wayOk_snoc {sg : Int} {s : Side} : ∀ {w : List Side} {a : Ast}, WayOk sg a w → s ∈ openA (layA sg a w) → WayOk sg a (w ++ [s])
  | [], _, _, h => ⟨h, trivial⟩
  | _ :: _, _, ⟨h1, h2⟩, h => ⟨h1, wayOk_snoc h2 h⟩
theorem layA_snoc (sg : Int) (a : Ast) (w : List Side) (s : Side) : layA sg a (w ++ [s]) = crossA sg (layA sg a w) s := by unfold layA; rw [List.foldl_append]; rfl
theorem open_mem {row : List Int} {tn : List (Int × Int)} {n : Nat} {s : Side} : s ∈ openM row tn n ↔ (0 ≤ s.1 ∧ s.1 ≤ n ∧ (s.2 = 1 ∨ s.2 = -1)) ∧ sameF row tn s ((row.length : Int), 1) = true := by
  unfold openM openG
  rw [List.mem_flatMap]
  constructor
  · rintro ⟨g, hg, hs⟩
    have hg := List.mem_range.mp hg
    obtain ⟨h1, h2⟩ := List.mem_filter.mp hs
    refine ⟨?_, h2⟩
    simp only [List.mem_cons, List.not_mem_nil, or_false] at h1
    rcases h1 with rfl | rfl
    · exact ⟨by simp only; omega, by simp only; omega, .inl rfl⟩
    · exact ⟨by simp only; omega, by simp only; omega, .inr rfl⟩
  · rintro ⟨⟨h1, h2, h3⟩, h4⟩
    refine ⟨s.1.toNat, List.mem_range.mpr (by omega), List.mem_filter.mpr ⟨?_, h4⟩⟩
    obtain ⟨g, w⟩ := s
    simp only at h1 h2 h3
    have : ((g.toNat : Nat) : Int) = g := Int.toNat_of_nonneg h1
    simp only [this]
    rcases h3 with rfl | rfl <;> simp
structure StOk (a : Ast) : Prop where
  ar : Ar a.1 a.2.1
  zero : (0 : Int) ∈ a.1
  keys : ∀ p ∈ a.2.1, 1 ≤ p.1
  nle : a.2.2 ≤ a.1.length
  near : ∃ s : Side, 0 ≤ s.1 ∧ s.1 ≤ a.2.2 ∧ (s.2 = 1 ∨ s.2 = -1) ∧ sameF a.1 a.2.1 s ((a.1.length : Int), 1) = true
theorem StOk.ne {a : Ast} (h : StOk a) : openA a ≠ [] := fun z => by
  obtain ⟨s, h1, h2, h3, h4⟩ := h.near
  have : s ∈ openA a := open_mem.mpr ⟨⟨h1, h2, h3⟩, h4⟩
  rw [z] at this; cases this
section
variable {row : List Int} {tn : List (Int × Int)}
theorem new_gt (hk : ∀ p ∈ tn, 1 ≤ p.1) : 1 ≤ newN tn ∧ ∀ p ∈ tn, p.1 < newN tn := by
  unfold newN
  by_cases h : tn = []
  · subst h
    exact ⟨by decide, fun p hp => by cases hp⟩
  · rw [if_neg h]
    have hn : tn.map (·.1) ≠ [] := fun z => h (List.map_eq_nil_iff.mp z)
    obtain ⟨m1, m2⟩ := imax_mem hn
    obtain ⟨p, hp, e⟩ := List.mem_map.mp m1
    have := hk p hp
    refine ⟨by omega, fun q hq => ?_⟩
    have := m2 q.1 (List.mem_map_of_mem hq)
    omega
theorem new_none (hk : ∀ p ∈ tn, 1 ≤ p.1) : dget tn (newN tn) = none := (dget_none_iff _ _).mpr fun z => by
  obtain ⟨p, hp, e⟩ := List.mem_map.mp z
  have := (new_gt hk).2 p hp
  omega
theorem crossTn_app (hk : ∀ p ∈ tn, 1 ≤ p.1) (w sg : Int) : crossTn tn w sg = tn ++ [(newN tn, sg * w)] := dput_new (new_none hk) _
theorem crossTn_get (w sg y : Int) : dget (crossTn tn w sg) y = if y = newN tn then some (sg * w) else dget tn y := dget_dput _ _ _ _
theorem Ar.abs_lt (A : Ar row tn) (hk : ∀ p ∈ tn, 1 ≤ p.1) {x : Int} (hx : x ∈ row) (h0 : x ≠ 0) : iabs x < newN tn := by
  obtain ⟨_, t, ht⟩ := A.wf x hx h0
  exact (new_gt hk).2 _ (dget_mem ht)
theorem crossRow_perm (g sg : Int) : (crossRow row tn g sg).Perm ((-sg * newN tn) :: (sg * newN tn) :: row) := by
  unfold crossRow
  have h1 : ((row.take g.toNat ++ [-sg * newN tn] ++ row.drop g.toNat) ++ [sg * newN tn]).Perm ((sg * newN tn) :: (row.take g.toNat ++ [-sg * newN tn] ++ row.drop g.toNat)) := List.perm_append_singleton _ _
  refine h1.trans ?_
  have h2 : (row.take g.toNat ++ [-sg * newN tn] ++ row.drop g.toNat).Perm ((-sg * newN tn) :: (row.take g.toNat ++ row.drop g.toNat)) := by
    rw [List.append_assoc]
    exact List.perm_middle
  rw [List.take_append_drop] at h2
  exact (h2.cons _).trans (List.Perm.swap _ _ _)
theorem crossRow_mem {g sg y : Int} : y ∈ crossRow row tn g sg ↔ y = -sg * newN tn ∨ y = sg * newN tn ∨ y ∈ row := by
  rw [(crossRow_perm g sg).mem_iff, List.mem_cons, List.mem_cons]
theorem crossRow_len (g sg : Int) : (crossRow row tn g sg).length = row.length + 2 := by
  have := (crossRow_perm (row := row) (tn := tn) g sg).length_eq
  simpa using this
theorem crossRow_last (g sg : Int) : (crossRow row tn g sg).getD (row.length + 1) 0 = sg * newN tn := by
  have hl : (row.take g.toNat ++ [-sg * newN tn] ++ row.drop g.toNat).length = row.length + 1 := by
    have := crossRow_len (row := row) (tn := tn) g sg
    unfold crossRow at this
    rw [List.length_append] at this
    simpa using this
  unfold crossRow
  rw [List.getD_eq_getElem?_getD, List.getElem?_append_right (by omega), hl]
  simp
theorem crossRow_at {g : Nat} (hg : g ≤ row.length) (sg : Int) : (crossRow row tn (g : Int) sg).getD g 0 = -sg * newN tn := by
  unfold crossRow
  rw [List.append_assoc, List.append_assoc, List.getD_eq_getElem?_getD, Int.toNat_natCast, List.getElem?_append_right (by rw [List.length_take]; omega), List.length_take, Nat.min_eq_left hg]
  simp
theorem sgn_abs {sg N : Int} (hs : sg = 1 ∨ sg = -1) (hN : 1 ≤ N) : iabs (sg * N) = N ∧ iabs (-sg * N) = N := by
  unfold iabs
  rcases hs with rfl | rfl
  · constructor <;> split <;> omega
  · constructor <;> split <;> omega
theorem cross_ar (A : Ar row tn) (hk : ∀ p ∈ tn, 1 ≤ p.1) {g w sg : Int} (hs : sg = 1 ∨ sg = -1) (hw : w = 1 ∨ w = -1) : Ar (crossRow row tn g sg) (crossTn tn w sg) := by
  obtain ⟨n1, n2⟩ := new_gt hk
  obtain ⟨a1, a2⟩ := sgn_abs hs n1
  have old : ∀ x ∈ row, x ≠ 0 → iabs x ≠ newN tn := fun x hx h0 => by
    have := A.abs_lt hk hx h0
    omega
  have nin : ∀ y, iabs y = newN tn → y ∉ row := fun y hy hr => by
    by_cases h0 : y = 0
    · subst h0
      have : iabs 0 = 0 := rfl
      omega
    · exact old y hr h0 hy
  refine ⟨?_, fun x hx h0 => ?_, fun x hx h0 t ht => ?_⟩
  · refine (crossRow_perm g sg).nodup_iff.mpr (List.nodup_cons.mpr ⟨fun z => ?_, List.nodup_cons.mpr ⟨nin _ a1, A.nd⟩⟩)
    rcases List.mem_cons.mp z with z | z
    · rcases hs with rfl | rfl <;> omega
    · exact nin _ a2 z
  · rw [crossTn_get]
    rcases crossRow_mem.mp hx with rfl | rfl | hx
    · exact ⟨crossRow_mem.mpr (.inr (.inl (by rw [Int.neg_mul, Int.neg_neg]))), by rw [a2, if_pos rfl]; exact ⟨_, rfl⟩⟩
    · exact ⟨crossRow_mem.mpr (.inl (by rw [Int.neg_mul])), by rw [a1, if_pos rfl]; exact ⟨_, rfl⟩⟩
    · obtain ⟨b1, b2⟩ := A.wf x hx h0
      exact ⟨crossRow_mem.mpr (.inr (.inr b1)), by rw [if_neg (old x hx h0)]; exact b2⟩
  · rw [crossTn_get] at ht
    have pm : sg * w = 1 ∨ sg * w = -1 := by rcases hs with rfl | rfl <;> rcases hw with rfl | rfl <;> simp
    rcases crossRow_mem.mp hx with rfl | rfl | hx
    · rw [a2, if_pos rfl] at ht; cases ht; exact pm
    · rw [a1, if_pos rfl] at ht; cases ht; exact pm
    · rw [if_neg (old x hx h0)] at ht
      exact A.pm x hx h0 t ht
/-- a face goes on along beyond -/
theorem same_bey (A : Ar row tn) {x : Side} (hx : isSide row.length x) : sameF row tn (beyP row tn row.length x) x = true := by
  obtain ⟨N, _⟩ := sides_num (bey_perm A)
  obtain ⟨v, hv⟩ := sides_has row tn hx
  have := N.inv x v hv
  rw [bey_all A hx] at this
  exact decide_eq_true (by rw [this, hv])
theorem same_trans {x y z : Side} (h1 : sameF row tn x y = true) (h2 : sameF row tn y z = true) : sameF row tn x z = true := decide_eq_true ((of_decide_eq_true h1).trans (of_decide_eq_true h2))
theorem same_symm {x y : Side} (h : sameF row tn x y = true) : sameF row tn y x = true := decide_eq_true (of_decide_eq_true h).symm
end
theorem cross_ok {a : Ast} (h : StOk a) {sg : Int} {s : Side} (hs : sg = 1 ∨ sg = -1) (hm : s ∈ openA a) : StOk (crossA sg a s) := by
  obtain ⟨row, tn, n⟩ := a
  obtain ⟨g, w⟩ := s
  obtain ⟨A, hz, hk, hn, _⟩ := h
  simp only at A hz hk hn
  obtain ⟨⟨h1, h2, h3⟩, _⟩ := open_mem.mp hm
  simp only at h1 h2 h3
  have A' : Ar (crossRow row tn g sg) (crossTn tn w sg) := cross_ar A hk hs h3
  have hl := crossRow_len (row := row) (tn := tn) g sg
  obtain ⟨n1, n2⟩ := new_gt hk
  refine ⟨A', ?_, ?_, ?_, ?_⟩
  · exact crossRow_mem.mpr (.inr (.inr hz))
  · intro p hp
    have hp : p ∈ crossTn tn w sg := hp
    rw [crossTn_app hk] at hp
    rcases List.mem_append.mp hp with hp | hp
    · exact hk p hp
    · rw [List.mem_singleton.mp hp]; exact n1
  · show n + 1 ≤ (crossRow row tn g sg).length
    omega
  · show ∃ s : Side, 0 ≤ s.1 ∧ s.1 ≤ ((n + 1 : Nat) : Int) ∧ (s.2 = 1 ∨ s.2 = -1) ∧ sameF (crossRow row tn g sg) (crossTn tn w sg) s (((crossRow row tn g sg).length : Int), 1) = true
    obtain ⟨g', rfl⟩ : ∃ g' : Nat, g = g' := ⟨g.toNat, by omega⟩
    have hat := crossRow_at (row := row) (tn := tn) (g := g') (by omega) sg
    have hla := crossRow_last (row := row) (tn := tn) (g' : Int) sg
    have s1 : isSide (crossRow row tn (g' : Int) sg).length (((crossRow row tn (g' : Int) sg).length : Int), 1) := ⟨by simp only; omega, by simp only; omega, .inl rfl⟩
    have s2 : isSide (crossRow row tn (g' : Int) sg).length (((crossRow row tn (g' : Int) sg).length : Int), -1) := ⟨by simp only; omega, by simp only; omega, .inr rfl⟩
    have f1 := same_bey A' s1
    have f2 := same_bey A' s2
    have e2 : (((crossRow row tn (g' : Int) sg).length : Int), (-1 : Int)) = (((row.length + 1 : Nat) : Int) + 1, -1) := by rw [hl]; push_cast; rfl
    rw [bey_end] at f1
    have hidx : (crossRow row tn (g' : Int) sg).idxOf (-(sg * newN tn)) = g' := by
      rw [← Int.neg_mul, ← hat]
      exact idx_get A'.nd (by omega)
    have hne : ¬ sg * newN tn = 0 := by rcases hs with rfl | rfl <;> omega
    rw [e2, bey_dn (by omega), hla, hidx, if_neg (by rintro (z | z); exact hne z; omega), ← e2] at f2
    refine ⟨_, ?_, ?_, ?_, same_trans f2 f1⟩ <;> split <;> first | (simp only; omega) | exact .inl rfl | exact .inr rfl
theorem lay_ok {sg : Int} (hs : sg = 1 ∨ sg = -1) : ∀ {w : List Side} {a : Ast}, StOk a → WayOk sg a w → StOk (layA sg a w)
  | [], _, h, _ => h
  | s :: w, a, h, ⟨h1, h2⟩ => lay_ok hs (w := w) (cross_ok h hs h1) h2
theorem lay_len {sg : Int} : ∀ {w : List Side} {a : Ast}, (layA sg a w).1.length = a.1.length + 2 * w.length ∧ (layA sg a w).2.2 = a.2.2 + w.length
  | [], _ => ⟨rfl, rfl⟩
  | s :: w, a => by
    obtain ⟨h1, h2⟩ := lay_len (sg := sg) (w := w) (a := crossA sg a s)
    have h3 : (crossA sg a s).1.length = a.1.length + 2 := crossRow_len _ _
    have h4 : (crossA sg a s).2.2 = a.2.2 + 1 := rfl
    refine ⟨?_, ?_⟩
    · show (layA sg (crossA sg a s) w).1.length = _
      rw [h1, h3, List.length_cons]; omega
    · show (layA sg (crossA sg a s) w).2.2 = _
      rw [h2, h4, List.length_cons]; omega
/-! the arc that is left -/
section
variable {ps ts : List Int} {b e : Nat}
theorem keptP_keys (ts lf : List Int) : ∀ n, ∀ p ∈ keptP ts lf n, 1 ≤ p.1
  | 0, _, h => by cases h
  | n + 1, p, h => by
    rw [keptP_succ] at h
    split at h
    · exact keptP_keys ts lf n p h
    · have hk := keptP_get ts lf n ((n : Int) + 1)
      rw [if_neg (by omega)] at hk
      rw [dput_new hk] at h
      rcases List.mem_append.mp h with h | h
      · exact keptP_keys ts lf n p h
      · rw [List.mem_singleton.mp h]; simp only; omega
theorem rowM_mem {x : Int} : x ∈ rowM ps b e ↔ (x ∈ ps.drop e ∨ x = 0 ∨ x ∈ ps.take b) ∧ iabs x ∉ liftedM ps b e := by
  unfold rowM
  rw [List.mem_filter]
  simp [or_assoc]
theorem start_ok (hap : apRun ts.length [] (ps.map .int) = true) (hl : ps.length = 2 * ts.length) (ht : Pm ts) (hbe : b ≤ e) : StOk (rowM ps b e, keptM ps ts b e, (rowM ps b e).length) := by
  obtain ⟨pm, nd⟩ := passes_pair hap hl
  have split3 : ∀ x ∈ ps, x ∈ ps.take b ∨ x ∈ (ps.drop b).take (e - b) ∨ x ∈ ps.drop e := fun x hx => by
    rw [← List.take_append_drop b ps] at hx
    rcases List.mem_append.mp hx with hx | hx
    · exact .inl hx
    · rw [← List.take_append_drop (e - b) (ps.drop b), List.drop_drop, show b + (e - b) = e by omega] at hx
      exact .inr (List.mem_append.mp hx)
  have inps : ∀ x, x ∈ rowM ps b e → x ≠ 0 → x ∈ ps := fun x hx h0 => by
    rcases (rowM_mem.mp hx).1 with h | h | h
    · exact List.mem_of_mem_drop h
    · exact absurd h h0
    · exact List.mem_of_mem_take h
  have nl0 : ∀ y ∈ liftedM ps b e, 1 ≤ y := fun y hy => by
    unfold liftedM at hy
    obtain ⟨x, hx, rfl⟩ := List.mem_map.mp hy
    have := (pm x).mp (List.mem_of_mem_drop (List.mem_of_mem_take hx))
    exact iabs_pos this.1
  have z0 : (0 : Int) ∉ ps := fun z => ((pm 0).mp z).1 rfl
  have ar : Ar (rowM ps b e) (keptM ps ts b e) := by
    refine ⟨?_, fun x hx h0 => ?_, fun x hx h0 t e1 => ?_⟩
    · refine List.Pairwise.filter _ ?_
      show ((ps.drop e ++ [0]) ++ ps.take b).Nodup
      rw [List.nodup_append, List.nodup_append]
      refine ⟨⟨nd.sublist (List.drop_sublist _ _), by simp, fun x hx y hy => ?_⟩, nd.sublist (List.take_sublist _ _), fun x hx y hy => ?_⟩
      · rw [List.mem_singleton.mp hy]
        rintro rfl
        exact z0 (List.mem_of_mem_drop hx)
      · rcases List.mem_append.mp hx with hx | hx
        · rintro rfl
          have h2 := nd
          rw [← List.take_append_drop e ps] at h2
          refine (List.nodup_append.mp h2).2.2 x ?_ x hx rfl
          exact (List.take_sublist_take_left hbe).subset hy
        · rw [List.mem_singleton.mp hx]
          rintro rfl
          exact z0 (List.mem_of_mem_take hy)
    · have hp := inps x hx h0
      have hb := (pm x).mp hp
      have hm : -x ∈ ps := (pm (-x)).mpr ⟨by omega, by rw [iabs_neg]; exact hb.2⟩
      have hnl := (rowM_mem.mp hx).2
      refine ⟨rowM_mem.mpr ⟨?_, by rw [iabs_neg]; exact hnl⟩, ?_⟩
      · rcases split3 _ hm with h | h | h
        · exact .inr (.inr h)
        · refine absurd ?_ hnl
          rw [← iabs_neg]
          exact List.mem_map_of_mem h
        · exact .inl h
      · have h1 := iabs_pos h0
        exact ⟨_, by rw [keptM, keptP_get, if_pos ⟨h1, hb.2, hnl⟩]⟩
    · have hp := inps x hx h0
      have hb := (pm x).mp hp
      have hnl := (rowM_mem.mp hx).2
      have h1 := iabs_pos h0
      rw [keptM, keptP_get, if_pos ⟨h1, hb.2, hnl⟩] at e1
      cases e1
      exact ht _ (getD_mem (by omega))
  refine ⟨ar, ?_, keptP_keys _ _ _, Nat.le_refl _, ?_⟩
  · refine rowM_mem.mpr ⟨.inr (.inl rfl), fun z => ?_⟩
    have := nl0 _ z
    have e : iabs 0 = 0 := rfl
    omega
  · exact ⟨(((rowM ps b e).length : Int), 1), by simp only; omega, by simp only; omega, .inl rfl, decide_eq_true rfl⟩
end
end Ov

/-! D-layer: a, b, c = e. -/
namespace Ov
open PySem L2
theorem ds_unp3 {X : Cx} {W : WX} {c : Cc} {δ : List Sl} {e : Expr} {m : Mo} {d1 d2 d3 : D} {i j l : Nat} {x y z : Str} {p1 p2 p3 pt pos : Pos} {k : Nat} {Φ : Po} (h : DE X c m δ e (.tup [d1, d2, d3])) (hc : X.calm = true) (hN : X.N.Nodup) (hi : X.N[i]? = some x) (hx : Loc X.env.scope x) (hj : X.N[j]? = some y) (hy : Loc X.env.scope y) (hl : X.N[l]? = some z) (hz : Loc X.env.scope z)
    (ho : i < δ.length ∧ j < δ.length ∧ l < δ.length) (hn : Φ.nx (((δ.set i (stSl (itMo (nf m)) d1)).set j (stSl (itMo (nf m)) d2)).set l (stSl (itMo (nf m)) d3)))
    (hf : X.fn x = true ∨ X.env.scope.names.lookup x = some .local := by first | exact .inl rfl | exact .inr rfl | assumption) (hf2 : X.fn y = true ∨ X.env.scope.names.lookup y = some .local := by first | exact .inl rfl | exact .inr rfl | assumption) (hf3 : X.fn z = true ∨ X.env.scope.names.lookup z = some .local := by first | exact .inl rfl | exact .inr rfl | assumption)
    (e1 : (assignEach [.Name x p1, .Name y p2, .Name z p3] X.env).map (·.2) = assign (.Name x p1) X.env :: (assignEach [.Name y p2, .Name z p3] X.env).map (·.2) := by rfl)
    (e2 : (assignEach [.Name y p2, .Name z p3] X.env).map (·.2) = assign (.Name y p2) X.env :: (assignEach [.Name z p3] X.env).map (·.2) := by rfl) (e3 : (assignEach [.Name z p3] X.env).map (·.2) = assign (.Name z p3) X.env :: (assignEach [] X.env).map (·.2) := by rfl)
    (en : (assignEach [.Name x p1, .Name y p2, .Name z p3] X.env).length = 3 := by rfl) (est : (assignEach [.Name x p1, .Name y p2, .Name z p3] X.env).findIdx? (·.1) = none := by rfl)
    (h1 : (assignEach [.Tuple [.Name x p1, .Name y p2, .Name z p3] k pt] X.env).map (·.2) = [assign (.Tuple [.Name x p1, .Name y p2, .Name z p3] k pt) X.env] := by rfl)
    (hs : swapsWithSole [.Tuple [.Name x p1, .Name y p2, .Name z p3] k pt] e pos.line X.env = pure false := by rfl) (hw : swappedStores [.Tuple [.Name x p1, .Name y p2, .Name z p3] k pt] e X.env = pure none := by rfl) :
    DS X W c δ (.Assign [.Tuple [.Name x p1, .Name y p2, .Name z p3] k pt] e pos) Φ :=
  DS.mkE h.k (ps_asg h.nf.pe (pg_tup hc (pgs_cons (pg_name hN hi hx hf) (pgs_cons (pg_name hN hj hy hf2) (pgs_cons (pg_name hN hl hz hf3) pgs_nil e3) e2) e1) en est) hs hw h1) fun S σ g D q1 _ _ _ _ => ⟨S, rfl, g, fun v S1 l1 g1 r1 => by
    obtain ⟨p, xs, ev, hp, hlen, hx'⟩ := g1.toGoodH.tup r1
    match xs, hlen with
    | [x1, x2, x3], _ =>
      have r1 := hx' 0 d1 x1 rfl rfl
      have r2 := hx' 1 d2 x2 rfl rfl
      have r3 := hx' 2 d3 x3 rfl rfl
      refine ⟨p, [x1, x2, x3], ev, hp.sq, rfl, x1, [x2, x3], rfl, x2, [x3], rfl, x3, [], rfl, rfl, ?_⟩
      have g2 := g1.putM (i := i) ho.1 r1
      have g3 := g2.putM (i := j) (by rw [List.length_set]; exact ho.2.1) r2
      have g4 := g3.putM (i := l) (by rw [List.length_set, List.length_set]; exact ho.2.2) r3
      exact q1 S1 _ _ l1.b g4 hn⟩
end Ov

/-! Plain: faces split and joined; labels of gaps, of open and of closed ropes. -/
namespace Ov
open L2
def itS (nx : Side → Side) : Nat → Side → Side
  | 0, x => x
  | n + 1, x => itS nx n (nx x)
section
variable {nx : Side → Side} {L : Nat}
theorem itS_add (nx : Side → Side) : ∀ (m n : Nat) (x : Side), itS nx (m + n) x = itS nx n (itS nx m x)
  | 0, n, x => by rw [Nat.zero_add]; rfl
  | m + 1, n, x => by
    rw [Nat.succ_add]
    show itS nx (m + n) (nx x) = itS nx n (itS nx m (nx x))
    exact itS_add nx m n (nx x)
theorem it_side (P : Perm nx L) : ∀ (n : Nat) (x : Side), isSide L x → isSide L (itS nx n x)
  | 0, _, h => h
  | n + 1, x, h => it_side P n (nx x) (P.side x h)
theorem it_inj (P : Perm nx L) : ∀ (n : Nat) (x y : Side), isSide L x → isSide L y → itS nx n x = itS nx n y → x = y
  | 0, _, _, _, _, h => h
  | n + 1, x, y, hx, hy, h => P.inj x y hx hy (it_inj P n _ _ (P.side x hx) (P.side y hy) h)
theorem it_back (P : Perm nx L) {x : Side} (hx : isSide L x) : ∃ m, 0 < m ∧ itS nx m x = x := Classical.byContradiction fun hc => by
  have no : ∀ m, 0 < m → itS nx m x ≠ x := fun m hm e => hc ⟨m, hm, e⟩
  have lt : ∀ i j : Nat, i < j → itS nx i x ≠ itS nx j x := fun i j hij e => by
    have e2 : itS nx j x = itS nx i (itS nx (j - i) x) := by
      rw [← itS_add]; congr 1; omega
    rw [e2] at e
    exact no (j - i) (by omega) (it_inj P i _ _ hx (it_side P _ _ hx) e).symm
  have nd : ((List.range (2 * (L + 1) + 1)).map fun k => itS nx k x).Nodup := nodup_map_of List.nodup_range fun i _ j _ e => by
    rcases Nat.lt_trichotomy i j with h | h | h
    · exact absurd e (lt i j h)
    · exact h
    · exact absurd e.symm (lt j i h)
  have := nodup_le (m := allSides L) nd fun y hy => by
    obtain ⟨i, _, rfl⟩ := List.mem_map.mp hy
    exact mem_allSides (it_side P i x hx)
  rw [List.length_map, List.length_range, allSides_len] at this
  omega
theorem con_it (P : Perm nx L) {x y : Side} (c : Con nx L x y) : isSide L x → ∃ n, itS nx n x = y := by
  induction c with
  | rfl x => exact fun _ => ⟨0, rfl⟩
  | fwd h _ ih =>
    intro _
    obtain ⟨n, e⟩ := ih (P.side _ h)
    exact ⟨n + 1, e⟩
  | @bwd x y h _ ih =>
    intro _
    obtain ⟨n, e⟩ := ih h
    obtain ⟨m, hm, em⟩ := it_back P h
    refine ⟨(m - 1) + n, ?_⟩
    have : itS nx (m - 1) (nx x) = x := by
      have z : itS nx (m - 1 + 1) x = x := by rw [Nat.sub_add_cancel hm]; exact em
      exact z
    rw [itS_add, this, e]
theorem least {p : Nat → Prop} (h : ∃ n, p n) : ∃ n, p n ∧ ∀ m, m < n → ¬ p m := by
  obtain ⟨n, hn⟩ := h
  induction n using Nat.strongRecOn with
  | ind n ih =>
    by_cases h : ∃ m, m < n ∧ p m
    · obtain ⟨m, hm, pm⟩ := h
      exact ih m hm pm
    · exact ⟨n, hn, fun m hm pm => h ⟨m, hm, pm⟩⟩
/-- where two sides of one face go on as the other did, the face is two -/
theorem split (P : Perm nx L) {a e : Side} (ha : isSide L a) (he : isSide L e) (hne : a ≠ e) (c : Con nx L a e) :
    ∃ S : Side → Prop, (∀ x, S x → ∃ k, itS nx k x = a) ∧ S a ∧ ¬ S e ∧ (∀ x, isSide L x → x ≠ a → x ≠ e → (S (nx x) ↔ S x)) ∧ S (nx e) ∧ ¬ S (nx a) := by
  refine ⟨fun x => ∃ k, itS nx k x = a ∧ ∀ j, j ≤ k → itS nx j x ≠ e, fun x ⟨k, h, _⟩ => ⟨k, h⟩, ?_, ?_, ?_, ?_, ?_⟩
  · refine ⟨0, rfl, fun j hj => ?_⟩
    have : j = 0 := by omega
    subst this; exact hne
  · rintro ⟨k, _, h⟩
    exact h 0 (Nat.zero_le _) rfl
  · intro x hx h1 h2
    constructor
    · rintro ⟨k, e1, h⟩
      refine ⟨k + 1, e1, fun j hj => ?_⟩
      cases j with
      | zero => exact h2
      | succ j => exact h j (by omega)
    · rintro ⟨k, e1, h⟩
      cases k with
      | zero => exact absurd e1 h1
      | succ k => exact ⟨k, e1, fun j hj => h (j + 1) (by omega)⟩
  · obtain ⟨i, ei, hi⟩ := least (con_it P c.symm he)
    cases i with
    | zero => exact absurd ei.symm hne
    | succ i =>
      refine ⟨i, ei, fun j hj q => ?_⟩
      have q : itS nx (j + 1) e = e := q
      refine hi (i + 1 - (j + 1)) (by omega) ?_
      rw [← ei, show i + 1 = (j + 1) + (i + 1 - (j + 1)) by omega, itS_add, q]
      congr 1; omega
  · rintro ⟨k, ek, h⟩
    have ek : itS nx (k + 1) a = a := ek
    have all : ∀ n, itS nx n a = itS nx (n % (k + 1)) a := by
      intro n
      induction n using Nat.strongRecOn with
      | ind n ih =>
        by_cases hn : n < k + 1
        · rw [Nat.mod_eq_of_lt hn]
        · have e1 : n = (k + 1) + (n - (k + 1)) := by omega
          rw [Nat.mod_eq_sub_mod (by omega), ← ih (n - (k + 1)) (by omega)]
          conv => lhs; rw [e1, itS_add, ek]
    obtain ⟨n, en⟩ := con_it P c ha
    rw [all n] at en
    have hlt : n % (k + 1) < k + 1 := Nat.mod_lt _ (by omega)
    generalize n % (k + 1) = r at *
    cases r with
    | zero => exact hne en
    | succ r => exact h r (by omega) en
end
/-! labels of gaps: to the left onward, to the left back -/
structure Lb (row : List Int) (tn : List (Int × Int)) (u d : Nat → Int) : Prop where
  z : ∀ i, i < row.length → row.getD i 0 = 0 → u i = u (i + 1) ∧ d (i + 1) = d i
  pu : ∀ i, i < row.length → row.getD i 0 ≠ 0 → u i = if epsM tn (row.getD i 0) = 1 then u (row.idxOf (-(row.getD i 0)) + 1) else d (row.idxOf (-(row.getD i 0)))
  pd : ∀ i, i < row.length → row.getD i 0 ≠ 0 → d (i + 1) = if epsM tn (row.getD i 0) = -1 then u (row.idxOf (-(row.getD i 0)) + 1) else d (row.idxOf (-(row.getD i 0)))
/-- k values at least -/
def Many (L : Nat) (u d : Nat → Int) (k : Nat) : Prop := ∃ l : List Int, l.Nodup ∧ k ≤ l.length ∧ ∀ y ∈ l, ∃ i, i ≤ L ∧ (u i = y ∨ d i = y)
def OL (row : List Int) (tn : List (Int × Int)) (k : Nat) : Prop := ∃ u d, Lb row tn u d ∧ u row.length = d row.length ∧ d 0 = u 0 ∧ Many row.length u d k
def CL (row : List Int) (tn : List (Int × Int)) (k : Nat) : Prop := ∃ u d, Lb row tn u d ∧ u row.length = u 0 ∧ d row.length = d 0 ∧ Many row.length u d k
/-- a label of sides -/
def sdF (u d : Nat → Int) (s : Side) : Int := if s.2 = 1 then u s.1.toNat else d s.1.toNat
theorem sd_up (u d : Nat → Int) (i : Nat) : sdF u d ((i : Int), 1) = u i := by show u ((i : Int)).toNat = u i; rw [Int.toNat_natCast]
theorem sd_up1 (u d : Nat → Int) (i : Nat) : sdF u d ((i : Int) + 1, 1) = u (i + 1) := by show u ((i : Int) + 1).toNat = u (i + 1); congr 1
theorem sd_dn (u d : Nat → Int) (i : Nat) : sdF u d ((i : Int), -1) = d i := by show d ((i : Int)).toNat = d i; rw [Int.toNat_natCast]
theorem sd_dn1 (u d : Nat → Int) (i : Nat) : sdF u d ((i : Int) + 1, -1) = d (i + 1) := by show d ((i : Int) + 1).toNat = d (i + 1); congr 1
theorem sd_if (u d : Nat → Int) (c : Prop) [Decidable c] (j : Nat) : sdF u d (if c then ((j : Int) + 1, 1) else ((j : Int), -1)) = if c then u (j + 1) else d j := by
  split
  · exact sd_up1 u d j
  · exact sd_dn u d j
theorem ol_faces {row : List Int} {tn : List (Int × Int)} {k : Nat} (A : Ar row tn) (h : OL row tn k) : (k : Int) ≤ (sidesN row tn).2 := by
  obtain ⟨u, d, B, e1, e2, l, hn, hk, hl⟩ := h
  have := faces_ge A (sdF u d) (fun x hx => ?_) l hn fun y hy => ?_
  · omega
  · rw [bey_all A hx]
    rcases side_kind hx with ⟨i, hi, rfl⟩ | ⟨i, hi, rfl⟩ | rfl | rfl
    · rw [bey_up hi, sd_up]
      by_cases h0 : row.getD i 0 = 0
      · rw [if_pos (.inl h0), sd_up1]
        exact (B.z i hi h0).1.symm
      · have hin := (A.wf _ (get_mem hi) h0).1
        rw [if_neg (by rintro (z | z); exact h0 z; exact absurd (List.idxOf_lt_length_of_mem hin) (by omega)), sd_if]
        exact (B.pu i hi h0).symm
    · rw [bey_dn hi, sd_dn1]
      by_cases h0 : row.getD i 0 = 0
      · rw [if_pos (.inl h0), sd_dn]
        exact (B.z i hi h0).2.symm
      · have hin := (A.wf _ (get_mem hi) h0).1
        rw [if_neg (by rintro (z | z); exact h0 z; exact absurd (List.idxOf_lt_length_of_mem hin) (by omega)), sd_if]
        exact (B.pd i hi h0).symm
    · rw [bey_end, sd_up, sd_dn, e1]
    · rw [bey_beg]
      have a1 := sd_up u d 0
      have a2 := sd_dn u d 0
      exact a1.trans (e2.symm.trans a2.symm)
  · obtain ⟨i, hi, h | h⟩ := hl y hy
    · exact ⟨((i : Int), 1), ⟨by simp only; omega, by simp only; omega, .inl rfl⟩, (sd_up u d i).trans h⟩
    · exact ⟨((i : Int), -1), ⟨by simp only; omega, by simp only; omega, .inr rfl⟩, (sd_dn u d i).trans h⟩
/-- the number of a side's face -/
def fnM (row : List Int) (tn : List (Int × Int)) (s : Side) : Int := (dget (sidesM row tn) s).getD 0
theorem fn_same {row : List Int} {tn : List (Int × Int)} {x y : Side} (h : sameF row tn x y = true) : fnM row tn x = fnM row tn y := by
  unfold fnM
  rw [of_decide_eq_true h]
section
variable {row : List Int} {tn : List (Int × Int)} (A : Ar row tn)
include A
theorem fn_keep {x : Side} (hx : isSide row.length x) : fnM row tn (beyP row tn row.length x) = fnM row tn x := fn_same (same_bey A hx)
theorem fn_con {x y : Side} (hx : isSide row.length x) (hy : isSide row.length y) (h : fnM row tn x = fnM row tn y) : Con (beyondM row tn (placesM row)) row.length x y := by
  obtain ⟨N, _⟩ := sides_num (bey_perm A)
  obtain ⟨v, hv⟩ := sides_has row tn hx
  obtain ⟨v', hv'⟩ := sides_has row tn hy
  unfold fnM at h
  rw [hv, hv'] at h
  have h : v = v' := h
  subst h
  exact N.con x y v hv hv'
theorem fn_all : ∀ v : Nat, (v : Int) < (sidesN row tn).2 → ∃ i, i ≤ row.length ∧ (fnM row tn ((i : Int), 1) = v ∨ fnM row tn ((i : Int), -1) = v) := fun v hv => by
  obtain ⟨N, _⟩ := sides_num (bey_perm A)
  obtain ⟨x, hx⟩ := N.all v (by omega) hv
  have hs := N.ok.side hx
  obtain ⟨g, w⟩ := x
  obtain ⟨h1, h2, h3⟩ := hs
  simp only at h1 h2 h3
  refine ⟨g.toNat, by omega, ?_⟩
  rw [Int.toNat_of_nonneg h1]
  unfold fnM
  rcases h3 with rfl | rfl
  · left; rw [hx]; rfl
  · right; rw [hx]; rfl
theorem fn_nn {x : Side} (hx : isSide row.length x) : 0 ≤ fnM row tn x := by
  obtain ⟨N, _⟩ := sides_num (bey_perm A)
  obtain ⟨v, hv⟩ := sides_has row tn hx
  unfold fnM
  rw [hv]
  exact (N.bd x v hv).1
end
theorem up_side {L i : Nat} (h : i ≤ L) : isSide L ((i : Int), 1) := ⟨by simp only; omega, by simp only; omega, .inl rfl⟩
theorem dn_side {L i : Nat} (h : i ≤ L) : isSide L ((i : Int), -1) := ⟨by simp only; omega, by simp only; omega, .inr rfl⟩
/-- one number for two -/
theorem filter_ne_len {l : List Int} (hn : l.Nodup) (z : Int) : l.length ≤ (l.filter fun y => !decide (y = z)).length + 1 := filter_one_len hn z
theorem cl_ol {row : List Int} {tn : List (Int × Int)} {k : Nat} (h : CL row tn (k + 1)) : OL row tn k := by
  obtain ⟨u, d, B, e1, e2, l, hn, hk, hl⟩ := h
  have mu : ∀ (f : Int → Int) (c : Prop) [Decidable c] (x y : Int), f (if c then x else y) = if c then f x else f y := fun f c _ x y => by split <;> rfl
  refine ⟨fun i => if u i = d 0 then u 0 else u i, fun i => if d i = d 0 then u 0 else d i, ⟨fun i hi h0 => ?_, fun i hi h0 => ?_, fun i hi h0 => ?_⟩, ?_, ?_, l.filter fun y => !decide (y = d 0), hn.filter _, ?_, fun y hy => ?_⟩
  · obtain ⟨a, b⟩ := B.z i hi h0
    simp only [a, b, and_self]
  · have := congrArg (fun x => if x = d 0 then u 0 else x) (B.pu i hi h0)
    simp only [mu (fun x => if x = d 0 then u 0 else x)] at this
    exact this
  · have := congrArg (fun x => if x = d 0 then u 0 else x) (B.pd i hi h0)
    simp only [mu (fun x => if x = d 0 then u 0 else x)] at this
    exact this
  · simp only [e1, e2, if_true]
    split <;> rfl
  · simp only [if_true]
    split <;> rfl
  · have := filter_ne_len hn (d 0)
    omega
  · obtain ⟨h1, h2⟩ := List.mem_filter.mp hy
    have h2 : y ≠ d 0 := by simpa using h2
    obtain ⟨i, hi, h | h⟩ := hl y h1
    · exact ⟨i, hi, .inl (by simp only [h, if_neg h2])⟩
    · exact ⟨i, hi, .inr (by simp only [h, if_neg h2])⟩
/-- a closed rope begun elsewhere -/
theorem cl_rot {a b : List Int} {tn : List (Int × Int)} {k : Nat} (A : Ar (a ++ b) tn) (h : CL (a ++ b) tn k) : CL (b ++ a) tn k := by
  obtain ⟨u, d, B, e1, e2, l, hn, hk, hl⟩ := h
  have hnd := A.nd
  have len1 : (a ++ b).length = a.length + b.length := List.length_append
  have len2 : (b ++ a).length = b.length + a.length := List.length_append
  -- places
  have gA : ∀ i, i < b.length → (b ++ a).getD i 0 = (a ++ b).getD (i + a.length) 0 := fun i hi => by
    rw [List.getD_eq_getElem?_getD, List.getD_eq_getElem?_getD, List.getElem?_append_left hi, List.getElem?_append_right (by omega)]
    congr 2; omega
  have gB : ∀ i, i < a.length → (b ++ a).getD (i + b.length) 0 = (a ++ b).getD i 0 := fun i hi => by
    rw [List.getD_eq_getElem?_getD, List.getD_eq_getElem?_getD, List.getElem?_append_right (by omega), List.getElem?_append_left hi]
    congr 2; omega
  have disj : ∀ z, z ∈ a → z ∉ b := fun z h1 h2 => (List.nodup_append.mp hnd).2.2 z h1 z h2 rfl
  have iA : ∀ z, z ∈ a → (b ++ a).idxOf z = (a ++ b).idxOf z + b.length ∧ (a ++ b).idxOf z < a.length := fun z hz => by
    rw [List.idxOf_append, List.idxOf_append, if_neg (disj z hz), if_pos hz]
    exact ⟨by omega, List.idxOf_lt_length_of_mem hz⟩
  have iB : ∀ z, z ∈ b → (b ++ a).idxOf z + a.length = (a ++ b).idxOf z ∧ (b ++ a).idxOf z < b.length := fun z hz => by
    have hna : z ∉ a := fun q => disj z q hz
    rw [List.idxOf_append, List.idxOf_append, if_neg hna, if_pos hz]
    exact ⟨by omega, List.idxOf_lt_length_of_mem hz⟩
  rw [len1] at e1 e2
  -- labels
  have lu : ∀ (f : Nat → Int), f (a.length + b.length) = f 0 → ∀ i, i ≤ a.length → (if i + b.length ≤ b.length then f (i + b.length + a.length) else f (i + b.length - b.length)) = f i := fun f hf i hi => by
    by_cases h0 : i = 0
    · subst h0
      rw [if_pos (by omega), show 0 + b.length + a.length = a.length + b.length by omega, hf]
    · rw [if_neg (by omega)]
      congr 1; omega
  have key : ∀ z, z ∈ a ++ b → (if (b ++ a).idxOf z + 1 ≤ b.length then u ((b ++ a).idxOf z + 1 + a.length) else u ((b ++ a).idxOf z + 1 - b.length)) = u ((a ++ b).idxOf z + 1) ∧
      (if (b ++ a).idxOf z ≤ b.length then d ((b ++ a).idxOf z + a.length) else d ((b ++ a).idxOf z - b.length)) = d ((a ++ b).idxOf z) := fun z hz => by
    rcases List.mem_append.mp hz with hz | hz
    · obtain ⟨q1, q2⟩ := iA z hz
      rw [q1]
      refine ⟨?_, lu d e2 _ (by omega)⟩
      have := lu u e1 ((a ++ b).idxOf z + 1) (by omega)
      rw [show (a ++ b).idxOf z + 1 + b.length = (a ++ b).idxOf z + b.length + 1 by omega] at this
      exact this
    · obtain ⟨q1, q2⟩ := iB z hz
      rw [if_pos (by omega), if_pos (by omega)]
      refine ⟨?_, ?_⟩ <;> congr 1 <;> omega
  refine ⟨fun i => if i ≤ b.length then u (i + a.length) else u (i - b.length), fun i => if i ≤ b.length then d (i + a.length) else d (i - b.length), ⟨fun i hi h0 => ?_, fun i hi h0 => ?_, fun i hi h0 => ?_⟩, ?_, ?_, l, hn, hk, fun y hy => ?_⟩
  · rw [len2] at hi
    by_cases hb : i < b.length
    · rw [gA i hb] at h0
      obtain ⟨z1, z2⟩ := B.z _ (by omega) h0
      simp only [if_pos (show i ≤ b.length by omega), if_pos (show i + 1 ≤ b.length by omega)]
      refine ⟨?_, ?_⟩
      · rw [z1]; congr 1; omega
      · rw [show i + 1 + a.length = i + a.length + 1 by omega]; exact z2
    · obtain ⟨j, rfl⟩ : ∃ j, i = j + b.length := ⟨i - b.length, by omega⟩
      rw [gB j (by omega)] at h0
      obtain ⟨z1, z2⟩ := B.z j (by omega) h0
      have l1 := lu u e1 j (by omega)
      have l2 := lu u e1 (j + 1) (by omega)
      have l3 := lu d e2 j (by omega)
      have l4 := lu d e2 (j + 1) (by omega)
      rw [show j + 1 + b.length = j + b.length + 1 by omega] at l2 l4
      simp only [l1, l2, l3, l4]
      exact ⟨z1, z2⟩
  · rw [len2] at hi
    by_cases hb : i < b.length
    · rw [gA i hb] at h0 ⊢
      have hm := get_mem (row := a ++ b) (i := i + a.length) (by omega)
      obtain ⟨k1, k2⟩ := key _ (A.wf _ hm h0).1
      simp only [k1, k2, if_pos (show i ≤ b.length by omega)]
      exact B.pu _ (by omega) h0
    · obtain ⟨j, rfl⟩ : ∃ j, i = j + b.length := ⟨i - b.length, by omega⟩
      rw [gB j (by omega)] at h0 ⊢
      have hm := get_mem (row := a ++ b) (i := j) (by omega)
      obtain ⟨k1, k2⟩ := key _ (A.wf _ hm h0).1
      have l1 := lu u e1 j (by omega)
      simp only [k1, k2, l1]
      exact B.pu j (by omega) h0
  · rw [len2] at hi
    by_cases hb : i < b.length
    · rw [gA i hb] at h0 ⊢
      have hm := get_mem (row := a ++ b) (i := i + a.length) (by omega)
      obtain ⟨k1, k2⟩ := key _ (A.wf _ hm h0).1
      simp only [k1, k2, if_pos (show i + 1 ≤ b.length by omega)]
      rw [show i + 1 + a.length = i + a.length + 1 by omega]
      exact B.pd _ (by omega) h0
    · obtain ⟨j, rfl⟩ : ∃ j, i = j + b.length := ⟨i - b.length, by omega⟩
      rw [gB j (by omega)] at h0 ⊢
      have hm := get_mem (row := a ++ b) (i := j) (by omega)
      obtain ⟨k1, k2⟩ := key _ (A.wf _ hm h0).1
      have l4 := lu d e2 (j + 1) (by omega)
      rw [show j + 1 + b.length = j + b.length + 1 by omega] at l4
      simp only [k1, k2, l4]
      exact B.pd j (by omega) h0
  · rw [len2]
    have := lu u e1 a.length (Nat.le_refl _)
    rw [Nat.add_comm] at this
    simp only [this, if_pos (Nat.zero_le b.length)]
    congr 1; omega
  · rw [len2]
    have := lu d e2 a.length (Nat.le_refl _)
    rw [Nat.add_comm] at this
    simp only [this, if_pos (Nat.zero_le b.length)]
    congr 1; omega
  · obtain ⟨i, hi, h⟩ := hl y hy
    rw [len1] at hi
    by_cases hia : i < a.length
    · refine ⟨i + b.length, by omega, ?_⟩
      simp only [lu u e1 i (by omega), lu d e2 i (by omega)]
      exact h
    · refine ⟨i - a.length, by omega, ?_⟩
      simp only [if_pos (show i - a.length ≤ b.length by omega), show i - a.length + a.length = i by omega]
      exact h
end Ov

/-! Plain: a crossing more, a crossing less, the ends joined: how many faces there are. -/
namespace Ov
open L2
section
variable {row : List Int} {tn : List (Int × Int)}
theorem fn_it (A : Ar row tn) : ∀ (n : Nat) (x : Side), isSide row.length x → fnM row tn (itS (beyondM row tn (placesM row)) n x) = fnM row tn x
  | 0, _, _ => rfl
  | n + 1, x, hx => by
    show fnM row tn (itS _ n (beyondM row tn (placesM row) x)) = _
    rw [fn_it A n _ ((bey_perm A).side x hx), bey_all A hx, fn_keep A hx]
open Classical in
/-- two sides of one face exchange what follows: a label of the two that come of it -/
theorem split_lab (A : Ar row tn) {a e : Side} (ha : isSide row.length a) (he : isSide row.length e) (hne : a ≠ e) (h : fnM row tn a = fnM row tn e) :
    ∃ m : Side → Int, (∀ x, isSide row.length x → x ≠ a → x ≠ e → m (beyP row tn row.length x) = m x) ∧ m a = -1 ∧ m (beyP row tn row.length e) = -1 ∧ m e = fnM row tn e ∧ m (beyP row tn row.length a) = fnM row tn e ∧ (∀ x, isSide row.length x → fnM row tn x ≠ fnM row tn e → m x = fnM row tn x) := by
  obtain ⟨S, s0, s1, s2, s3, s4, s5⟩ := split (bey_perm A) ha he hne (fn_con A ha he h)
  have sf : ∀ x, isSide row.length x → S x → fnM row tn x = fnM row tn e := fun x hx hS => by
    obtain ⟨k, ek⟩ := s0 x hS
    rw [← fn_it A k x hx, ek, h]
  rw [bey_all A he] at s4
  rw [bey_all A ha] at s5
  refine ⟨fun x => if S x then -1 else fnM row tn x, fun x hx h1 h2 => ?_, if_pos s1, if_pos s4, if_neg s2, ?_, fun x hx hf => if_neg fun z => hf (sf x hx z)⟩
  · have := s3 x hx h1 h2
    rw [bey_all A hx] at this
    simp only [this, fn_keep A hx]
  · simp only [if_neg s5, fn_keep A ha, h]
/-- the ends joined, one face more -/
theorem ol_cl (A : Ar row tn) {k : Nat} (hF : (k : Int) ≤ (sidesN row tn).2) (hm : meetsM row tn = true) : CL row tn (k + 1) := by
  have sa := dn_side (Nat.zero_le row.length)
  have se := up_side (Nat.le_refl row.length)
  have hf : fnM row tn ((0 : Nat), -1) = fnM row tn ((row.length : Int), 1) := (fn_same hm).symm
  obtain ⟨m, m1, m2, m3, m4, m5, m6⟩ := split_lab A sa se (by intro z; have := congrArg Prod.snd z; simp at this) hf
  rw [bey_end] at m3
  have hb : beyP row tn row.length (((0 : Nat) : Int), -1) = (0, 1) := bey_beg
  rw [hb] at m5
  have up : ∀ i, i < row.length → m ((i : Int), 1) = m (beyP row tn row.length ((i : Int), 1)) := fun i hi => (m1 _ (up_side (by omega)) (by intro z; have := congrArg Prod.snd z; simp at this) (by intro z; have := congrArg Prod.fst z; simp only at this; omega)).symm
  have dn : ∀ i, i < row.length → m ((i : Int) + 1, -1) = m (beyP row tn row.length ((i : Int) + 1, -1)) := fun i hi => (m1 _ (dn_side (i := i + 1) (by omega)) (by intro z; have := congrArg Prod.fst z; simp only at this; omega) (by intro z; have := congrArg Prod.snd z; simp at this)).symm
  have mif : ∀ (c : Prop) [Decidable c] (x y : Side), m (if c then x else y) = if c then m x else m y := fun c _ x y => by split <;> rfl
  refine ⟨fun i => m ((i : Int), 1), fun i => m ((i : Int), -1), ⟨fun i hi h0 => ?_, fun i hi h0 => ?_, fun i hi h0 => ?_⟩, ?_, ?_, (-1 : Int) :: (List.range k).map (fun i : Nat => (i : Int)), ?_, ?_, fun y hy => ?_⟩
  · have a1 := up i hi
    have a2 := dn i hi
    rw [bey_up hi, if_pos (.inl h0)] at a1
    rw [bey_dn hi, if_pos (.inl h0)] at a2
    exact ⟨a1, a2⟩
  · have a1 := up i hi
    have hin := List.idxOf_lt_length_of_mem (A.wf _ (get_mem hi) h0).1
    rw [bey_up hi, if_neg (by rintro (z | z); exact h0 z; omega), mif] at a1
    exact a1
  · have a1 := dn i hi
    have hin := List.idxOf_lt_length_of_mem (A.wf _ (get_mem hi) h0).1
    rw [bey_dn hi, if_neg (by rintro (z | z); exact h0 z; omega), mif] at a1
    exact a1
  · exact m4.trans m5.symm
  · exact m3.trans m2.symm
  · refine List.nodup_cons.mpr ⟨fun z => ?_, nodup_map_of List.nodup_range fun x _ y _ e => by omega⟩
    obtain ⟨i, _, e⟩ := List.mem_map.mp z
    omega
  · simp
  · rcases List.mem_cons.mp hy with rfl | hy
    · exact ⟨0, Nat.zero_le _, .inr m2⟩
    · obtain ⟨v, hv, rfl⟩ := List.mem_map.mp hy
      have hv := List.mem_range.mp hv
      by_cases hve : (v : Int) = fnM row tn ((row.length : Int), 1)
      · exact ⟨row.length, Nat.le_refl _, .inl (m4.trans hve.symm)⟩
      · obtain ⟨i, hi, h | h⟩ := fn_all A v (by omega)
        · exact ⟨i, hi, .inl ((m6 _ (up_side hi) (by rw [h]; exact hve)).trans h)⟩
        · exact ⟨i, hi, .inr ((m6 _ (dn_side hi) (by rw [h]; exact hve)).trans h)⟩
end
/-- row' is row with -x put at the gap g, and x behind all -/
structure Crs (row row' : List Int) (tn tn' : List (Int × Int)) (g : Nat) (x : Int) : Prop where
  A : Ar row tn
  A' : Ar row' tn'
  hg : g ≤ row.length
  eq : row' = (row.take g ++ [-x] ++ row.drop g) ++ [x]
  x0 : x ≠ 0
  ep : ∀ z ∈ row, z ≠ 0 → epsM tn' z = epsM tn z
section
variable {row row' : List Int} {tn tn' : List (Int × Int)} {g : Nat} {x : Int} (K : Crs row row' tn tn' g x)
include K
theorem Crs.len : row'.length = row.length + 2 := by
  rw [K.eq]
  have := K.hg
  simp
  omega
theorem Crs.lo {i : Nat} (h : i < g) : row'.getD i 0 = row.getD i 0 := by
  have := K.hg
  rw [K.eq, List.getD_eq_getElem?_getD, List.getD_eq_getElem?_getD, List.append_assoc, List.append_assoc, List.getElem?_append_left (by rw [List.length_take]; omega), List.getElem?_take, if_pos h]
theorem Crs.at : row'.getD g 0 = -x := by
  have := K.hg
  rw [K.eq, List.getD_eq_getElem?_getD, List.append_assoc, List.append_assoc, List.getElem?_append_right (by rw [List.length_take]; omega), List.length_take, Nat.min_eq_left this]
  simp
theorem Crs.hi {i : Nat} (h1 : g ≤ i) (h2 : i < row.length) : row'.getD (i + 1) 0 = row.getD i 0 := by
  have := K.hg
  rw [K.eq, List.getD_eq_getElem?_getD, List.getD_eq_getElem?_getD, List.getElem?_append_left (by simp; omega), List.getElem?_append_right (by simp; omega), List.getElem?_drop]
  congr 2
  simp
  omega
theorem Crs.last : row'.getD (row.length + 1) 0 = x := by
  have := K.hg
  have hl : (row.take g ++ [-x] ++ row.drop g).length = row.length + 1 := by simp; omega
  rw [K.eq, List.getD_eq_getElem?_getD, List.getElem?_append_right (by omega), hl]
  simp
theorem Crs.idx_x : row'.idxOf x = row.length + 1 := by
  have e := idx_get K.A'.nd (i := row.length + 1) (by rw [K.len]; omega)
  rw [K.last] at e
  exact e
theorem Crs.idx_y : row'.idxOf (-x) = g := by
  have h := K.hg
  have e := idx_get K.A'.nd (i := g) (by rw [K.len]; omega)
  rw [K.at] at e
  exact e
theorem Crs.idx {z : Int} (hz : z ∈ row) : row'.idxOf z = if row.idxOf z < g then row.idxOf z else row.idxOf z + 1 := by
  have hlt := List.idxOf_lt_length_of_mem hz
  have hl := K.len
  by_cases h : row.idxOf z < g
  · rw [if_pos h]
    have e := idx_get K.A'.nd (i := row.idxOf z) (by omega)
    rw [K.lo h, get_idx hz] at e
    exact e
  · rw [if_neg h]
    have e := idx_get K.A'.nd (i := row.idxOf z + 1) (by omega)
    rw [K.hi (by omega) hlt, get_idx hz] at e
    exact e
/-- labels of the arc with the crossing: at the gap g ahead of it and behind -/
theorem Crs.lb {u d : Nat → Int} {ub ua db da nu : Int}
    (tz : ∀ i, i < row.length → row.getD i 0 = 0 → (if i = g then ua else u i) = (if i + 1 = g then ub else u (i + 1)) ∧ (if i + 1 = g then da else d (i + 1)) = (if i = g then db else d i))
    (tu : ∀ i, i < row.length → row.getD i 0 ≠ 0 → (if i = g then ua else u i) = if epsM tn (row.getD i 0) = 1 then (if row.idxOf (-(row.getD i 0)) + 1 = g then ub else u (row.idxOf (-(row.getD i 0)) + 1)) else (if row.idxOf (-(row.getD i 0)) = g then db else d (row.idxOf (-(row.getD i 0)))))
    (td : ∀ i, i < row.length → row.getD i 0 ≠ 0 → (if i + 1 = g then da else d (i + 1)) = if epsM tn (row.getD i 0) = -1 then (if row.idxOf (-(row.getD i 0)) + 1 = g then ub else u (row.idxOf (-(row.getD i 0)) + 1)) else (if row.idxOf (-(row.getD i 0)) = g then db else d (row.idxOf (-(row.getD i 0)))))
    (w1 : epsM tn' x = 1 → ub = (if row.length = g then db else d row.length) ∧ db = nu ∧ (if row.length = g then ua else u row.length) = ua ∧ nu = da)
    (w2 : epsM tn' x = -1 → ub = nu ∧ db = (if row.length = g then db else d row.length) ∧ (if row.length = g then ua else u row.length) = da ∧ nu = ua) :
    Lb row' tn' (fun i => if i < g then u i else if i = g then ub else if i = g + 1 then ua else if i ≤ row.length + 1 then u (i - 1) else nu) (fun i => if i < g then d i else if i = g then da else if i = g + 1 then db else if i ≤ row.length + 1 then d (i - 1) else nu) := by
  suffices hs : ∀ u' d' : Nat → Int, (∀ i, u' i = if i < g then u i else if i = g then ub else if i = g + 1 then ua else if i ≤ row.length + 1 then u (i - 1) else nu) → (∀ i, d' i = if i < g then d i else if i = g then da else if i = g + 1 then db else if i ≤ row.length + 1 then d (i - 1) else nu) → Lb row' tn' u' d' from hs _ _ (fun _ => rfl) (fun _ => rfl)
  intro u' d' hu' hd'
  have hg := K.hg
  have hl := K.len
  have x0 := K.x0
  have y0 : -x ≠ 0 := by omega
  -- labels by the arc's own gaps: whence one goes, where one comes
  have us : ∀ i, i ≤ row.length → u' (if i < g then i else i + 1) = (if i = g then ua else u i) := fun i hi => by
    rw [hu']
    by_cases h : i < g
    · rw [if_pos h, if_pos h, if_neg (by omega)]
    · rw [if_neg h, if_neg (by omega), if_neg (by omega)]
      by_cases h2 : i = g
      · rw [if_pos (by omega), if_pos h2]
      · rw [if_neg (by omega), if_pos (by omega), if_neg h2]; congr 1
  have ut : ∀ j, j < row.length → u' ((if j < g then j else j + 1) + 1) = (if j + 1 = g then ub else u (j + 1)) := fun j hj => by
    rw [hu']
    by_cases h : j < g
    · rw [if_pos h]
      by_cases h2 : j + 1 = g
      · rw [if_neg (by omega), if_pos h2, if_pos h2]
      · rw [if_pos (by omega), if_neg h2]
    · rw [if_neg h, if_neg (by omega), if_neg (by omega), if_neg (by omega), if_pos (by omega), if_neg (by omega)]; congr 1
  have dS : ∀ i, i < row.length → d' ((if i < g then i else i + 1) + 1) = (if i + 1 = g then da else d (i + 1)) := fun j hj => by
    rw [hd']
    by_cases h : j < g
    · rw [if_pos h]
      by_cases h2 : j + 1 = g
      · rw [if_neg (by omega), if_pos h2, if_pos h2]
      · rw [if_pos (by omega), if_neg h2]
    · rw [if_neg h, if_neg (by omega), if_neg (by omega), if_neg (by omega), if_pos (by omega), if_neg (by omega)]; congr 1
  have dT : ∀ i, i ≤ row.length → d' (if i < g then i else i + 1) = (if i = g then db else d i) := fun i hi => by
    rw [hd']
    by_cases h : i < g
    · rw [if_pos h, if_pos h, if_neg (by omega)]
    · rw [if_neg h, if_neg (by omega), if_neg (by omega)]
      by_cases h2 : i = g
      · rw [if_pos (by omega), if_pos h2]
      · rw [if_neg (by omega), if_pos (by omega), if_neg h2]; congr 1
  -- things
  have kinds : ∀ i', i' < row'.length → (∃ i, i < row.length ∧ i' = (if i < g then i else i + 1) ∧ row'.getD i' 0 = row.getD i 0) ∨ i' = g ∨ i' = row.length + 1 := fun i' hi' => by
    by_cases h1 : i' < g
    · exact .inl ⟨i', by omega, by rw [if_pos h1], K.lo h1⟩
    · by_cases h2 : i' = g
      · exact .inr (.inl h2)
      · by_cases h3 : i' = row.length + 1
        · exact .inr (.inr h3)
        · refine .inl ⟨i' - 1, by omega, by rw [if_neg (by omega)]; omega, ?_⟩
          have := K.hi (i := i' - 1) (by omega) (by omega)
          rw [Nat.sub_add_cancel (by omega)] at this
          exact this
  have eN := epsM_neg tn' x0
  have ex := K.A'.eps (x := x) (by have := get_mem (row := row') (i := row.length + 1) (by omega); rw [K.last] at this; exact this) x0
  have endU : u' (row.length + 1) = if row.length = g then ua else u row.length := by
    rw [hu']
    rw [if_neg (by omega), if_neg (by omega)]
    by_cases h : row.length = g
    · rw [if_pos (by omega), if_pos h]
    · rw [if_neg (by omega), if_pos (by omega), if_neg h]; congr 1
  have endD : d' (row.length + 1) = if row.length = g then db else d row.length := by
    rw [hd']
    rw [if_neg (by omega), if_neg (by omega)]
    by_cases h : row.length = g
    · rw [if_pos (by omega), if_pos h]
    · rw [if_neg (by omega), if_pos (by omega), if_neg h]; congr 1
  have topU : u' (row.length + 1 + 1) = nu := by
    rw [hu']
    rw [if_neg (by omega), if_neg (by omega), if_neg (by omega), if_neg (by omega)]
  have topD : d' (row.length + 1 + 1) = nu := by
    rw [hd']
    rw [if_neg (by omega), if_neg (by omega), if_neg (by omega), if_neg (by omega)]
  have gU : u' g = ub := by
    rw [hu']; rw [if_neg (by omega), if_pos rfl]
  have gD : d' g = da := by
    rw [hd']; rw [if_neg (by omega), if_pos rfl]
  have hU : u' (g + 1) = ua := by
    rw [hu']; rw [if_neg (by omega), if_neg (by omega), if_pos rfl]
  have hD : d' (g + 1) = db := by
    rw [hd']; rw [if_neg (by omega), if_neg (by omega), if_pos rfl]
  refine ⟨fun i' hi' h0 => ?_, fun i' hi' h0 => ?_, fun i' hi' h0 => ?_⟩
  · rcases kinds i' hi' with ⟨i, hi, rfl, er⟩ | rfl | rfl
    · rw [er] at h0
      obtain ⟨z1, z2⟩ := tz i hi h0
      rw [us i (by omega), ut i hi, dS i hi, dT i (by omega)]
      exact ⟨z1, z2⟩
    · rw [K.at] at h0; exact absurd h0 y0
    · rw [K.last] at h0; exact absurd h0 x0
  · rcases kinds i' hi' with ⟨i, hi, rfl, er⟩ | rfl | rfl
    · rw [er] at h0 ⊢
      have hm := get_mem hi
      have hn := (K.A.wf _ hm h0).1
      have hlt := List.idxOf_lt_length_of_mem hn
      rw [K.ep _ hm h0, K.idx hn]
      rw [us i (by omega), ut _ hlt, dT _ (Nat.le_of_lt hlt)]
      exact tu i hi h0
    · rw [K.at, Int.neg_neg, K.idx_x, eN]
      rw [gU, topU, endD]
      rcases ex with e | e
      · rw [e, if_neg (by decide)]; exact (w1 e).1
      · rw [e, if_pos (by decide)]; exact (w2 e).1
    · rw [K.last, K.idx_y]
      rw [endU, hU, gD]
      rcases ex with e | e
      · rw [e, if_pos (show (1 : Int) = 1 from rfl)]; exact (w1 e).2.2.1
      · rw [e, if_neg (show ¬ (-1 : Int) = 1 by decide)]; exact (w2 e).2.2.1
  · rcases kinds i' hi' with ⟨i, hi, rfl, er⟩ | rfl | rfl
    · rw [er] at h0 ⊢
      have hm := get_mem hi
      have hn := (K.A.wf _ hm h0).1
      have hlt := List.idxOf_lt_length_of_mem hn
      rw [K.ep _ hm h0, K.idx hn]
      rw [dS i hi, ut _ hlt, dT _ (Nat.le_of_lt hlt)]
      exact td i hi h0
    · rw [K.at, Int.neg_neg, K.idx_x, eN]
      rw [hD, topU, endD]
      rcases ex with e | e
      · rw [e, if_pos rfl]; exact (w1 e).2.1
      · rw [e, if_neg (by decide)]; exact (w2 e).2.1
    · rw [K.last, K.idx_y]
      rw [topD, hU, gD]
      rcases ex with e | e
      · rw [e, if_neg (by decide)]; exact (w1 e).2.2.2
      · rw [e, if_pos rfl]; exact (w2 e).2.2.2
end
end Ov

/-! Plain: a crossing more is a face more; a crossing less, one face less at most. -/
namespace Ov
open L2
section
variable {row row' : List Int} {tn tn' : List (Int × Int)} {g : Nat} {x : Int} (K : Crs row row' tn tn' g x)
include K
theorem Crs.lb2 {m : Side → Int} {ub ua db da nu : Int}
    (SU : ∀ i : Nat, i < row.length → (if i = g then ua else m ((i : Int), 1)) = m (beyP row tn row.length ((i : Int), 1))) (TU : ub = m ((g : Int), 1))
    (SD : ∀ i : Nat, i < row.length → (if i + 1 = g then da else m (((i + 1 : Nat) : Int), -1)) = m (beyP row tn row.length ((i : Int) + 1, -1))) (TD : db = m ((g : Int), -1))
    (w1 : epsM tn' x = 1 → ub = (if row.length = g then db else m ((row.length : Int), -1)) ∧ db = nu ∧ (if row.length = g then ua else m ((row.length : Int), 1)) = ua ∧ nu = da)
    (w2 : epsM tn' x = -1 → ub = nu ∧ db = (if row.length = g then db else m ((row.length : Int), -1)) ∧ (if row.length = g then ua else m ((row.length : Int), 1)) = da ∧ nu = ua) :
    Lb row' tn' (fun i => if i < g then m ((i : Int), 1) else if i = g then ub else if i = g + 1 then ua else if i ≤ row.length + 1 then m (((i - 1 : Nat) : Int), 1) else nu) (fun i => if i < g then m ((i : Int), -1) else if i = g then da else if i = g + 1 then db else if i ≤ row.length + 1 then m (((i - 1 : Nat) : Int), -1) else nu) := by
  have tU : ∀ j : Nat, (if j = g then ub else m ((j : Int), 1)) = m ((j : Int), 1) := fun j => by
    by_cases h : j = g
    · subst h; rw [if_pos rfl, TU]
    · rw [if_neg h]
  have tD : ∀ j : Nat, (if j = g then db else m ((j : Int), -1)) = m ((j : Int), -1) := fun j => by
    by_cases h : j = g
    · subst h; rw [if_pos rfl, TD]
    · rw [if_neg h]
  have mif : ∀ (c : Prop) [Decidable c] (x y : Side), m (if c then x else y) = if c then m x else m y := fun c _ x y => by split <;> rfl
  have A := K.A
  refine K.lb (u := fun i => m ((i : Int), 1)) (d := fun i => m ((i : Int), -1)) (fun i hi h0 => ?_) (fun i hi h0 => ?_) (fun i hi h0 => ?_) w1 w2
  · have a1 := SU i hi
    have a2 := SD i hi
    rw [bey_up hi, if_pos (show row.getD i 0 = 0 ∨ row.length ≤ row.idxOf (-(row.getD i 0)) from .inl h0)] at a1
    rw [bey_dn hi, if_pos (show row.getD i 0 = 0 ∨ row.length ≤ row.idxOf (-(row.getD i 0)) from .inl h0)] at a2
    refine ⟨?_, ?_⟩
    · have := tU (i + 1)
      exact a1.trans this.symm
    · exact a2.trans (tD i).symm
  · have a1 := SU i hi
    have hin := List.idxOf_lt_length_of_mem (A.wf _ (get_mem hi) h0).1
    rw [bey_up hi, if_neg (show ¬ (row.getD i 0 = 0 ∨ row.length ≤ row.idxOf (-(row.getD i 0))) from by rintro (z | z); exact h0 z; omega), mif] at a1
    have b1 := tU (row.idxOf (-(row.getD i 0)) + 1)
    have b2 := tD (row.idxOf (-(row.getD i 0)))
    rw [b2]
    refine a1.trans ?_
    rw [b1]
    rfl
  · have a1 := SD i hi
    have hin := List.idxOf_lt_length_of_mem (A.wf _ (get_mem hi) h0).1
    rw [bey_dn hi, if_neg (show ¬ (row.getD i 0 = 0 ∨ row.length ≤ row.idxOf (-(row.getD i 0))) from by rintro (z | z); exact h0 z; omega), mif] at a1
    have b1 := tU (row.idxOf (-(row.getD i 0)) + 1)
    have b2 := tD (row.idxOf (-(row.getD i 0)))
    rw [b2]
    refine a1.trans ?_
    rw [b1]
    rfl
/-- the values -/
theorem Crs.many {m : Side → Int} {ub ua db da nu f : Int} {k : Nat} (TU : ub = m ((g : Int), 1)) (TD : db = m ((g : Int), -1))
    (hv : ∀ v : Nat, v < k → (v : Int) ≠ f → ∃ i : Nat, i ≤ row.length ∧ (m ((i : Int), 1) = v ∨ m ((i : Int), -1) = v)) (hf : ub = f ∨ ua = f ∨ db = f ∨ da = f) (hn : ub = -1 ∨ ua = -1 ∨ db = -1 ∨ da = -1) :
    Many row'.length (fun i => if i < g then m ((i : Int), 1) else if i = g then ub else if i = g + 1 then ua else if i ≤ row.length + 1 then m (((i - 1 : Nat) : Int), 1) else nu) (fun i => if i < g then m ((i : Int), -1) else if i = g then da else if i = g + 1 then db else if i ≤ row.length + 1 then m (((i - 1 : Nat) : Int), -1) else nu) (k + 1) := by
  have hg := K.hg
  have hl := K.len
  have four : ∀ z : Int, (ub = z ∨ ua = z ∨ db = z ∨ da = z) → ∃ i, i ≤ row'.length ∧ ((if i < g then m ((i : Int), 1) else if i = g then ub else if i = g + 1 then ua else if i ≤ row.length + 1 then m (((i - 1 : Nat) : Int), 1) else nu) = z ∨ (if i < g then m ((i : Int), -1) else if i = g then da else if i = g + 1 then db else if i ≤ row.length + 1 then m (((i - 1 : Nat) : Int), -1) else nu) = z) := fun z hz => by
    rcases hz with h | h | h | h
    · exact ⟨g, by omega, .inl (by rw [if_neg (by omega), if_pos rfl]; exact h)⟩
    · exact ⟨g + 1, by omega, .inl (by rw [if_neg (by omega), if_neg (by omega), if_pos rfl]; exact h)⟩
    · exact ⟨g + 1, by omega, .inr (by rw [if_neg (by omega), if_neg (by omega), if_pos rfl]; exact h)⟩
    · exact ⟨g, by omega, .inr (by rw [if_neg (by omega), if_pos rfl]; exact h)⟩
  refine ⟨(-1 : Int) :: (List.range k).map (fun i : Nat => (i : Int)), ?_, by simp, fun y hy => ?_⟩
  · refine List.nodup_cons.mpr ⟨fun z => ?_, nodup_map_of List.nodup_range fun x _ y _ e => by omega⟩
    obtain ⟨i, _, e⟩ := List.mem_map.mp z
    omega
  · rcases List.mem_cons.mp hy with rfl | hy
    · exact four _ hn
    · obtain ⟨v, hvk, rfl⟩ := List.mem_map.mp hy
      have hvk := List.mem_range.mp hvk
      by_cases hvf : (v : Int) = f
      · rw [hvf]; exact four _ hf
      · obtain ⟨i, hi, h⟩ := hv v hvk hvf
        rcases Nat.lt_trichotomy i g with hig | rfl | hig
        · refine ⟨i, by omega, ?_⟩
          simp only [if_pos hig]
          exact h
        · rcases h with h | h
          · exact four _ (.inl (TU.trans h))
          · exact four _ (.inr (.inr (.inl (TD.trans h))))
        · refine ⟨i + 1, by omega, ?_⟩
          simp only [if_neg (show ¬ i + 1 < g by omega), if_neg (show ¬ i + 1 = g by omega), if_neg (show ¬ i + 1 = g + 1 by omega), if_pos (show i + 1 ≤ row.length + 1 by omega), Nat.add_sub_cancel]
          exact h
theorem cross_more {k : Nat} (hF : (k : Int) ≤ (sidesN row tn).2) (hs : fnM row tn ((g : Int), epsM tn' x) = fnM row tn ((row.length : Int), 1)) : OL row' tn' (k + 1) := by
  have hg := K.hg
  have hl := K.len
  have A := K.A
  have se := up_side (Nat.le_refl row.length)
  have ex := K.A'.eps (x := x) (by have := get_mem (row := row') (i := row.length + 1) (by omega); rw [K.last] at this; exact this) K.x0
  have s0 := dn_side (Nat.zero_le row.length)
  have b0 : beyP row tn row.length (0, -1) = (0, 1) := bey_beg
  have vals : ∀ (m : Side → Int), (∀ x, isSide row.length x → fnM row tn x ≠ fnM row tn ((row.length : Int), 1) → m x = fnM row tn x) → ∀ v : Nat, v < k → (v : Int) ≠ fnM row tn ((row.length : Int), 1) → ∃ i : Nat, i ≤ row.length ∧ (m ((i : Int), 1) = v ∨ m ((i : Int), -1) = v) := fun m m6 v hv hvf => by
    obtain ⟨i, hi, h | h⟩ := fn_all A v (by omega)
    · exact ⟨i, hi, .inl ((m6 _ (up_side hi) (by rw [h]; exact hvf)).trans h)⟩
    · exact ⟨i, hi, .inr ((m6 _ (dn_side hi) (by rw [h]; exact hvf)).trans h)⟩
  have endB : ∀ {ub da : Int} {m : Side → Int}, (g = 0 → da = ub) → (0 < g → m (0, -1) = m (0, 1)) → (if 0 < g then m (((0 : Nat) : Int), -1) else if 0 = g then da else (0 : Int)) = (if 0 < g then m (((0 : Nat) : Int), 1) else if 0 = g then ub else (0 : Int)) := fun {ub da m} h1 h2 => by
    by_cases h : 0 < g
    · rw [if_pos h, if_pos h]; exact h2 h
    · have : g = 0 := by omega
      rw [if_neg h, if_neg h, if_pos this.symm, if_pos this.symm]; exact h1 this
  have fin : ∀ {ub ua db da nu : Int} {m : Side → Int}, Lb row' tn' (fun i => if i < g then m ((i : Int), 1) else if i = g then ub else if i = g + 1 then ua else if i ≤ row.length + 1 then m (((i - 1 : Nat) : Int), 1) else nu) (fun i => if i < g then m ((i : Int), -1) else if i = g then da else if i = g + 1 then db else if i ≤ row.length + 1 then m (((i - 1 : Nat) : Int), -1) else nu) →
      (g = 0 → da = ub) → (0 < g → m (0, -1) = m (0, 1)) → Many row'.length (fun i => if i < g then m ((i : Int), 1) else if i = g then ub else if i = g + 1 then ua else if i ≤ row.length + 1 then m (((i - 1 : Nat) : Int), 1) else nu) (fun i => if i < g then m ((i : Int), -1) else if i = g then da else if i = g + 1 then db else if i ≤ row.length + 1 then m (((i - 1 : Nat) : Int), -1) else nu) (k + 1) → OL row' tn' (k + 1) := fun {ub ua db da nu m} B h1 h2 M => by
    refine ⟨_, _, B, ?_, ?_, M⟩
    · rw [hl]
      rw [if_neg (by omega), if_neg (by omega), if_neg (by omega), if_neg (by omega), if_neg (by omega), if_neg (by omega), if_neg (by omega), if_neg (by omega)]
    · by_cases h : 0 < g
      · rw [if_pos h, if_pos h]; exact h2 h
      · have : g = 0 := by omega
        rw [if_neg h, if_neg h, if_pos this.symm, if_pos this.symm]; exact h1 this
  by_cases hae : (((g : Int), epsM tn' x) : Side) = ((row.length : Int), 1)
  · -- the last gap itself
    have hw : epsM tn' x = 1 := congrArg Prod.snd hae
    have hgl : g = row.length := by have := congrArg Prod.fst hae; simp only at this; omega
    have kE := fn_keep A se
    rw [bey_end] at kE
    refine fin (m := fnM row tn) (ub := fnM row tn ((g : Int), 1)) (ua := -1) (db := fnM row tn ((g : Int), -1)) (da := fnM row tn ((g : Int), -1)) (nu := fnM row tn ((g : Int), -1)) (K.lb2 (fun i hi => ?_) rfl (fun i hi => ?_) rfl (fun _ => ?_) (fun z => ?_)) (fun h => ?_) (fun _ => ?_) (K.many rfl rfl (vals _ fun _ _ _ => rfl) (.inl ?_) (.inr (.inl rfl)))
    · rw [if_neg (by omega), fn_keep A (up_side (by omega))]
    · have e1 : fnM row tn (beyP row tn row.length ((i : Int) + 1, -1)) = fnM row tn (((i + 1 : Nat) : Int), -1) := fn_keep A (dn_side (i := i + 1) (by omega))
      rw [e1]
      by_cases h : i + 1 = g
      · rw [if_pos h, ← h]
      · rw [if_neg h]
    · rw [if_pos hgl.symm, if_pos hgl.symm, hgl]
      exact ⟨kE.symm, rfl, rfl, rfl⟩
    · rw [hw] at z; cases z
    · have := fn_keep A s0
      have e0 : beyP row tn row.length (((0 : Nat) : Int), -1) = (0, 1) := b0
      rw [e0] at this
      rw [h]
      exact this.symm
    · have := fn_keep A s0
      have e0 : beyP row tn row.length (((0 : Nat) : Int), -1) = (0, 1) := b0
      rw [e0] at this
      exact this.symm
    · rw [hgl]
  · have sa : isSide row.length ((g : Int), epsM tn' x) := ⟨by simp only; omega, by simp only; omega, ex⟩
    obtain ⟨m, m1, m2, m3, m4, m5, m6⟩ := split_lab A sa se hae hs
    rw [bey_end] at m3
    have up : ∀ i : Nat, i < row.length → (((i : Int), 1) : Side) ≠ ((g : Int), epsM tn' x) → m ((i : Int), 1) = m (beyP row tn row.length ((i : Int), 1)) := fun i hi h => (m1 _ (up_side (by omega)) h (by intro z; have := congrArg Prod.fst z; simp only at this; omega)).symm
    have dn : ∀ i : Nat, i < row.length → ((((i + 1 : Nat) : Int), -1) : Side) ≠ ((g : Int), epsM tn' x) → m (((i + 1 : Nat) : Int), -1) = m (beyP row tn row.length ((i : Int) + 1, -1)) := fun i hi h => (m1 _ (dn_side (i := i + 1) (by omega)) h (by intro z; have := congrArg Prod.snd z; simp at this)).symm
    have beg : (((0 : Int), -1) : Side) ≠ ((g : Int), epsM tn' x) → m (0, -1) = m (0, 1) := fun h => by
      have := m1 (0, -1) s0 h (by intro z; have := congrArg Prod.snd z; simp at this)
      rw [b0] at this
      exact this.symm
    rcases ex with hw | hw
    · rw [hw] at m2 m5 hae up dn beg
      have hgl : g < row.length := by
        rcases Nat.lt_or_ge g row.length with h | h
        · exact h
        · exact absurd (by rw [show g = row.length by omega]) hae
      refine fin (m := m) (ub := m ((g : Int), 1)) (ua := fnM row tn ((row.length : Int), 1)) (db := m ((g : Int), -1)) (da := m ((g : Int), -1)) (nu := m ((g : Int), -1)) (K.lb2 (fun i hi => ?_) rfl (fun i hi => ?_) rfl (fun _ => ?_) (fun z => ?_)) (fun h => ?_) (fun h => ?_) (K.many rfl rfl (vals _ m6) (.inr (.inl rfl)) (.inl m2))
      · by_cases h : i = g
        · rw [if_pos h, h]; exact m5.symm
        · rw [if_neg h]
          exact up i hi (by intro z; have := congrArg Prod.fst z; simp only at this; omega)
      · rw [← dn i hi (by intro z; have := congrArg Prod.snd z; simp at this)]
        by_cases h : i + 1 = g
        · rw [if_pos h, ← h]
        · rw [if_neg h]
      · rw [if_neg (by omega), if_neg (by omega)]
        exact ⟨m2.trans m3.symm, rfl, m4, rfl⟩
      · rw [hw] at z; cases z
      · have := beg (by intro z; have := congrArg Prod.snd z; simp at this)
        rw [h]; exact this
      · exact beg (by intro z; have := congrArg Prod.snd z; simp at this)
    · rw [hw] at m2 m5 up dn beg
      refine fin (m := m) (ub := m ((g : Int), 1)) (ua := m ((g : Int), 1)) (db := m ((g : Int), -1)) (da := fnM row tn ((row.length : Int), 1)) (nu := m ((g : Int), 1)) (K.lb2 (fun i hi => ?_) rfl (fun i hi => ?_) rfl (fun z => ?_) (fun _ => ?_)) (fun h => ?_) (fun h => ?_) (K.many rfl rfl (vals _ m6) (.inr (.inr (.inr rfl))) (.inr (.inr (.inl m2))))
      · rw [← up i hi (by intro z; have := congrArg Prod.snd z; simp at this)]
        by_cases h : i = g
        · rw [if_pos h, h]
        · rw [if_neg h]
      · by_cases h : i + 1 = g
        · rw [if_pos h]
          have e1 : (((i : Int) + 1, -1) : Side) = ((g : Int), -1) := by rw [← h]; rfl
          rw [e1]; exact m5.symm
        · rw [if_neg h]
          exact dn i hi (by intro z; have := congrArg Prod.fst z; simp only at this; omega)
      · rw [hw] at z; cases z
      · refine ⟨rfl, ?_, ?_, rfl⟩
        · by_cases h : row.length = g
          · rw [if_pos h]
          · rw [if_neg h]; exact m2.trans m3.symm
        · by_cases h : row.length = g
          · rw [if_pos h, ← h]; exact m4
          · rw [if_neg h]; exact m4
      · rw [h] at m5 ⊢
        have e0 : beyP row tn row.length (((0 : Nat) : Int), -1) = (0, 1) := b0
        rw [e0] at m5
        exact m5.symm
      · exact beg (by intro z; have := congrArg Prod.fst z; simp only at this; omega)
theorem cross_less2 {k : Nat} (hF : ((k + 1 : Nat) : Int) ≤ (sidesN row' tn').2) : ∃ u d, (Lb row tn u d ∧ u row.length = d row.length ∧ d 0 = u 0 ∧ Many row.length u d k) ∧ sdF u d ((g : Int), epsM tn' x) = u row.length := by
  have hg := K.hg
  have hl := K.len
  have A := K.A
  have A' := K.A'
  have x0 := K.x0
  have hx : x ∈ row' := by have := get_mem (row := row') (i := row.length + 1) (by omega); rw [K.last] at this; exact this
  have ex := A'.eps hx x0
  have eN := epsM_neg tn' x0
  have fif : ∀ (c : Prop) [Decidable c] (x y : Side), fnM row' tn' (if c then x else y) = if c then fnM row' tn' x else fnM row' tn' y := fun c _ x y => by split <;> rfl
  obtain ⟨U, hU⟩ : ∃ U : Nat → Int, ∀ i, U i = fnM row' tn' ((i : Int), 1) := ⟨_, fun _ => rfl⟩
  obtain ⟨D, hD⟩ : ∃ D : Nat → Int, ∀ i, D i = fnM row' tn' ((i : Int), -1) := ⟨_, fun _ => rfl⟩
  -- what beyond keeps, by gaps
  have zU : ∀ i, i < row'.length → row'.getD i 0 = 0 → U i = U (i + 1) ∧ D (i + 1) = D i := fun i hi h0 => by
    have a1 := fn_keep A' (up_side (i := i) (by omega))
    have a2 := fn_keep A' (dn_side (i := i + 1) (by omega))
    rw [bey_up hi, if_pos (.inl h0)] at a1
    have e2 : (((i + 1 : Nat) : Int), (-1 : Int)) = ((i : Int) + 1, -1) := rfl
    rw [e2, bey_dn hi, if_pos (.inl h0)] at a2
    rw [hU, hU, hD, hD]
    exact ⟨a1.symm, a2.symm⟩
  have pU : ∀ i, i < row'.length → row'.getD i 0 ≠ 0 → U i = if epsM tn' (row'.getD i 0) = 1 then U (row'.idxOf (-(row'.getD i 0)) + 1) else D (row'.idxOf (-(row'.getD i 0))) := fun i hi h0 => by
    have a1 := fn_keep A' (up_side (i := i) (by omega))
    have hin := List.idxOf_lt_length_of_mem (A'.wf _ (get_mem hi) h0).1
    rw [bey_up hi, if_neg (by rintro (z | z); exact h0 z; omega), fif] at a1
    rw [hU, hU, hD]
    exact a1.symm
  have pD : ∀ i, i < row'.length → row'.getD i 0 ≠ 0 → D (i + 1) = if epsM tn' (row'.getD i 0) = -1 then U (row'.idxOf (-(row'.getD i 0)) + 1) else D (row'.idxOf (-(row'.getD i 0))) := fun i hi h0 => by
    have a1 := fn_keep A' (dn_side (i := i + 1) (by omega))
    have hin := List.idxOf_lt_length_of_mem (A'.wf _ (get_mem hi) h0).1
    have e2 : (((i + 1 : Nat) : Int), (-1 : Int)) = ((i : Int) + 1, -1) := rfl
    rw [e2, bey_dn hi, if_neg (by rintro (z | z); exact h0 z; omega), fif] at a1
    rw [hU, hD, hD]
    exact a1.symm
  have eE : U (row.length + 2) = D (row.length + 2) := by
    have a1 := fn_keep A' (up_side (i := row'.length) (Nat.le_refl _))
    rw [bey_end, hl] at a1
    rw [hU, hD]
    exact a1.symm
  have eB : D 0 = U 0 := by
    have a1 := fn_keep A' (dn_side (i := 0) (Nat.zero_le _))
    have e0 : beyP row' tn' row'.length (((0 : Nat) : Int), -1) = (0, 1) := bey_beg
    rw [e0] at a1
    rw [hU, hD]
    exact a1.symm
  have y1 := pU g (by omega) (by rw [K.at]; omega)
  have y2 := pD g (by omega) (by rw [K.at]; omega)
  have x1 := pU (row.length + 1) (by omega) (by rw [K.last]; exact x0)
  have x2 := pD (row.length + 1) (by omega) (by rw [K.last]; exact x0)
  rw [K.at, Int.neg_neg, K.idx_x, eN] at y1 y2
  rw [K.last, K.idx_y] at x1 x2
  -- the two that become one
  obtain ⟨q, hq1, hq2, eU, eD, dL, top, sde⟩ : ∃ q : Int, True ∧ True ∧ (U g = U (g + 1) ∨ (U g = q ∧ U (g + 1) = U (row.length + 1))) ∧ (D g = D (g + 1) ∨ (D (g + 1) = q ∧ D g = U (row.length + 1))) ∧ D (row.length + 1) = q ∧ (U (row.length + 2) = D g ∨ U (row.length + 2) = U g) ∧ ((epsM tn' x = 1 ∧ q = U g) ∨ (epsM tn' x = -1 ∧ D g = U (row.length + 1))) := by
    rcases ex with e | e
    · rw [e] at y1 y2 x1 x2
      rw [if_neg (by decide)] at y1
      rw [if_pos rfl] at y2
      rw [if_pos rfl] at x1
      rw [if_neg (by decide)] at x2
      exact ⟨U g, trivial, trivial, .inr ⟨rfl, x1.symm⟩, .inl (by rw [y2, eE]; exact x2.symm), y1.symm, .inl (eE.trans x2), .inl ⟨e, rfl⟩⟩
    · rw [e] at y1 y2 x1 x2
      rw [if_pos (by decide)] at y1
      rw [if_neg (by decide)] at y2
      rw [if_neg (by decide)] at x1
      rw [if_pos rfl] at x2
      exact ⟨D (g + 1), trivial, trivial, .inl (by rw [y1, eE]; exact x2), .inr ⟨rfl, x1.symm⟩, y2.symm, .inr y1.symm, .inr ⟨e, x1.symm⟩⟩
  obtain ⟨mu, hmu⟩ : ∃ mu : Int → Int, ∀ v, mu v = if v = q then U (row.length + 1) else v := ⟨_, fun _ => rfl⟩
  have muq : mu q = U (row.length + 1) := by rw [hmu, if_pos rfl]
  have mup : mu (U (row.length + 1)) = U (row.length + 1) := by rw [hmu]; split <;> rfl
  have gU : mu (U g) = mu (U (g + 1)) := by
    rcases eU with h | ⟨h1, h2⟩
    · rw [h]
    · rw [h1, h2, muq, mup]
  have gD : mu (D g) = mu (D (g + 1)) := by
    rcases eD with h | ⟨h1, h2⟩
    · rw [h]
    · rw [h1, h2, muq, mup]
  have sU : ∀ i, mu (U (if i ≤ g then i else i + 1)) = mu (U (if i < g then i else i + 1)) := fun i => by
    by_cases h : i = g
    · subst h; rw [if_pos (Nat.le_refl _), if_neg (by omega)]; exact gU
    · by_cases h2 : i < g
      · rw [if_pos (by omega), if_pos h2]
      · rw [if_neg (by omega), if_neg h2]
  have sD : ∀ i, mu (D (if i ≤ g then i else i + 1)) = mu (D (if i < g then i else i + 1)) := fun i => by
    by_cases h : i = g
    · subst h; rw [if_pos (Nat.le_refl _), if_neg (by omega)]; exact gD
    · by_cases h2 : i < g
      · rw [if_pos (by omega), if_pos h2]
      · rw [if_neg (by omega), if_neg h2]
  have nxt : ∀ i : Nat, (if i + 1 ≤ g then i + 1 else i + 1 + 1) = (if i < g then i else i + 1) + 1 := fun i => by
    by_cases h : i < g
    · rw [if_pos (by omega), if_pos h]
    · rw [if_neg (by omega), if_neg h]
  have rget : ∀ i, i < row.length → row'.getD (if i < g then i else i + 1) 0 = row.getD i 0 ∧ (if i < g then i else i + 1) < row'.length := fun i hi => by
    by_cases h : i < g
    · rw [if_pos h]; exact ⟨K.lo h, by omega⟩
    · rw [if_neg h]; exact ⟨K.hi (by omega) hi, by omega⟩
  have muif : ∀ (c : Prop) [Decidable c] (x y : Int), mu (if c then x else y) = if c then mu x else mu y := fun c _ x y => by split <;> rfl
  refine ⟨fun i => mu (U (if i ≤ g then i else i + 1)), fun i => mu (D (if i ≤ g then i else i + 1)), ⟨⟨fun i hi h0 => ?_, fun i hi h0 => ?_, fun i hi h0 => ?_⟩, ?_, ?_, ((List.range (k + 1)).map (fun i : Nat => (i : Int))).filter (fun y => !decide (y = q)), ?_, ?_, fun y hy => ?_⟩, ?_⟩
  · obtain ⟨r1, r2⟩ := rget i hi
    rw [← r1] at h0
    obtain ⟨z1, z2⟩ := zU _ r2 h0
    rw [sU i, sD i, nxt i, z1, z2]
    exact ⟨rfl, rfl⟩
  · obtain ⟨r1, r2⟩ := rget i hi
    have hm := get_mem hi
    have hn := (A.wf _ hm h0).1
    have p := pU _ r2 (by rw [r1]; exact h0)
    rw [r1, K.ep _ hm h0, K.idx hn] at p
    have := congrArg mu p
    rw [muif] at this
    rw [sU i, this, nxt, sD]
  · obtain ⟨r1, r2⟩ := rget i hi
    have hm := get_mem hi
    have hn := (A.wf _ hm h0).1
    have p := pD _ r2 (by rw [r1]; exact h0)
    rw [r1, K.ep _ hm h0, K.idx hn] at p
    have := congrArg mu p
    rw [muif] at this
    show mu (D (if i + 1 ≤ g then i + 1 else i + 1 + 1)) = _
    rw [nxt i, this, nxt, sD]
  · show mu (U (if row.length ≤ g then row.length else row.length + 1)) = mu (D (if row.length ≤ g then row.length else row.length + 1))
    rw [sU, sD, if_neg (by omega), dL, muq, mup]
  · show mu (D (if 0 ≤ g then 0 else 0 + 1)) = mu (U (if 0 ≤ g then 0 else 0 + 1))
    rw [if_pos (Nat.zero_le _), eB]
  · exact (nodup_map_of List.nodup_range fun x _ y _ e => by omega).filter _
  · have h1 := filter_ne_len (l := (List.range (k + 1)).map (fun i : Nat => (i : Int))) (nodup_map_of List.nodup_range fun x _ y _ e => by omega) q
    rw [List.length_map, List.length_range] at h1
    omega
  · obtain ⟨h1, h2⟩ := List.mem_filter.mp hy
    have h2 : y ≠ q := by simpa using h2
    obtain ⟨v, hv, rfl⟩ := List.mem_map.mp h1
    have hv := List.mem_range.mp hv
    have muv : mu (v : Int) = v := by rw [hmu, if_neg h2]
    obtain ⟨i, hi, h⟩ := fn_all A' v (by omega)
    rw [← hU, ← hD] at h
    rw [hl] at hi
    by_cases c1 : i ≤ g
    · refine ⟨i, by omega, ?_⟩
      simp only [if_pos c1]
      rcases h with h | h
      · exact .inl (by rw [h, muv])
      · exact .inr (by rw [h, muv])
    · by_cases c2 : i ≤ row.length + 1
      · refine ⟨i - 1, by omega, ?_⟩
        show mu (U (if i - 1 ≤ g then i - 1 else i - 1 + 1)) = v ∨ mu (D (if i - 1 ≤ g then i - 1 else i - 1 + 1)) = v
        rw [sU, sD, if_neg (by omega), Nat.sub_add_cancel (by omega)]
        rcases h with h | h
        · exact .inl (by rw [h, muv])
        · exact .inr (by rw [h, muv])
      · have hi2 : i = row.length + 2 := by omega
        subst hi2
        have hv2 : U (row.length + 2) = v := by
          rcases h with h | h
          · exact h
          · rw [eE]; exact h
        refine ⟨g, hg, ?_⟩
        simp only [if_pos (Nat.le_refl g)]
        rcases top with t | t
        · exact .inr (by rw [← t, hv2, muv])
        · exact .inl (by rw [← t, hv2, muv])
  · have hend : mu (U (if row.length ≤ g then row.length else row.length + 1)) = U (row.length + 1) := by rw [sU, if_neg (by omega), mup]
    show _ = mu (U (if row.length ≤ g then row.length else row.length + 1))
    rw [hend]
    rcases sde with ⟨e, h⟩ | ⟨e, h⟩
    · rw [e, sd_up]
      show mu (U (if g ≤ g then g else g + 1)) = _
      rw [if_pos (Nat.le_refl g), ← h, muq]
    · rw [e, sd_dn]
      show mu (D (if g ≤ g then g else g + 1)) = _
      rw [if_pos (Nat.le_refl g), h, mup]
theorem cross_less {k : Nat} (hF : ((k + 1 : Nat) : Int) ≤ (sidesN row' tn').2) : OL row tn k := by
  obtain ⟨u, d, h, _⟩ := cross_less2 K hF
  exact ⟨u, d, h⟩
end
end Ov

/-! Plain: what is laid of a closed flat rope is one again. -/
namespace Ov
open L2
/-- a drawing that can be closed -/
structure CF (ps ts : List Int) : Prop where
  dr : isDrw (drD ps ts) = true
  cl : CL (ps ++ [0]) (keptM ps ts 0 0) (ts.length + 2)
theorem drD_parts {ps ts : List Int} (h : isDrw (drD ps ts) = true) : ts.length ≤ 40 ∧ ps.length = 2 * ts.length ∧ apRun ts.length [] (ps.map .int) = true ∧ Pm ts := by
  obtain ⟨ps', ts', e0, hl40, hl2, hap, hpm, _⟩ := isDrw_dr h
  have e0' : ps' = ps ∧ ts' = ts := by
    unfold drD at e0
    simp only [D.tup.injEq, List.cons.injEq, and_true] at e0
    have a := congrArg intsD e0.1
    have b := congrArg intsD e0.2
    rw [intsD_map, intsD_map] at a b
    exact ⟨a.symm, b.symm⟩
  obtain ⟨rfl, rfl⟩ := e0'
  exact ⟨hl40, hl2, hap, hpm⟩
theorem lifted_ee (ps : List Int) (e : Nat) : liftedM ps e e = [] := by unfold liftedM; simp
theorem rowM_ee (ps : List Int) (e : Nat) : rowM ps e e = (ps.drop e ++ [0]) ++ ps.take e := by
  unfold rowM
  rw [lifted_ee]
  exact List.filter_eq_self.mpr fun x _ => by simp
theorem cf_open {ps ts : List Int} (h : CF ps ts) (e : Nat) : ((ts.length + 1 : Nat) : Int) ≤ (sidesN (rowM ps e e) (keptM ps ts e e)).2 := by
  obtain ⟨h40, hl, hap, hpm⟩ := drD_parts h.dr
  have S := start_ok hap hl hpm (Nat.le_refl e)
  have A := dr_ar hap hl hpm
  have ek : keptM ps ts e e = keptM ps ts 0 0 := by unfold keptM; rw [lifted_ee, lifted_ee]
  refine ol_faces S.ar (cl_ol ?_)
  show CL (rowM ps e e) (keptM ps ts e e) (ts.length + 1 + 1)
  rw [rowM_ee, ek]
  have e1 : ps ++ [0] = ps.take e ++ (ps.drop e ++ [0]) := by rw [← List.append_assoc, List.take_append_drop]
  have hc := h.cl
  rw [e1] at hc A
  exact cl_rot A hc
theorem ne_split {l : List Int} (hn : l.Nodup) {y : Int} (hy : y ∈ l) : l = l.take (l.idxOf y) ++ [y] ++ l.drop (l.idxOf y + 1) ∧ l.filter (fun z => !decide (z = y)) = l.take (l.idxOf y) ++ l.drop (l.idxOf y + 1) := by
  have hlt := List.idxOf_lt_length_of_mem hy
  have e : l = l.take (l.idxOf y) ++ [y] ++ l.drop (l.idxOf y + 1) := by
    have h1 : l.drop (l.idxOf y) = y :: l.drop (l.idxOf y + 1) := by
      rw [List.drop_eq_getElem_cons hlt]
      congr 1
      exact List.getElem_idxOf hlt
    conv => lhs; rw [← List.take_append_drop (l.idxOf y) l, h1]
    simp
  refine ⟨e, ?_⟩
  generalize hk : l.idxOf y = k at *
  have hn' := hn
  rw [e] at hn'
  have h2 := List.nodup_append.mp hn'
  have h3 := List.nodup_append.mp h2.1
  conv => lhs; rw [e]
  rw [List.filter_append, List.filter_append]
  have f1 : (l.take k).filter (fun z => !decide (z = y)) = l.take k := List.filter_eq_self.mpr fun z hz => by
    have : z ≠ y := h3.2.2 z hz y (by simp)
    simpa using this
  have f2 : (l.drop (k + 1)).filter (fun z => !decide (z = y)) = l.drop (k + 1) := List.filter_eq_self.mpr fun z hz => by
    have : y ≠ z := h2.2.2 y (by simp) z hz
    simpa using fun q : z = y => this q.symm
  rw [f1, f2]
  simp
section
variable {ps ts : List Int} {sg : Int}
/-- one pass less is lifted -/
theorem lift_crs (hd : isDrw (drD ps ts) = true) (hs : sg = 1 ∨ sg = -1) {b e : Nat} (hb : b < e) (he : e ≤ ps.length) (hsg : ∀ x ∈ (ps.drop b).take (e - b), 0 ≤ x * sg) :
    ∃ g x, Crs (rowM ps b e) (rowM ps (b + 1) e) (keptM ps ts b e) (keptM ps ts (b + 1) e) g x ∧ x = ps.getD b 0 ∧ g = (rowM ps (b + 1) e).idxOf (-x) := by
  obtain ⟨h40, hl, hap, hpm⟩ := drD_parts hd
  obtain ⟨pm, nd⟩ := passes_pair hap hl
  have S := start_ok hap hl hpm (Nat.le_of_lt hb)
  have S' := start_ok hap hl hpm (b := b + 1) (e := e) (by omega)
  have hbl : b < ps.length := by omega
  generalize hx : ps.getD b 0 = x at *
  have hxg : ps[b] = x := by rw [← hx, List.getD_eq_getElem?_getD, List.getElem?_eq_getElem hbl]; rfl
  have hxm : x ∈ ps := by rw [← hxg]; exact List.getElem_mem hbl
  have hx0 := ((pm x).mp hxm).1
  have dB : (ps.drop b).take (e - b) = x :: (ps.drop (b + 1)).take (e - (b + 1)) := by
    rw [List.drop_eq_getElem_cons hbl, hxg, show e - b = (e - (b + 1)) + 1 by omega, List.take_succ_cons]
  have lB : liftedM ps b e = iabs x :: liftedM ps (b + 1) e := by unfold liftedM; rw [dB]; rfl
  rw [dB] at hsg
  have ndS : (x :: (ps.drop (b + 1)).take (e - (b + 1))).Nodup := by
    rw [← dB]
    exact (nd.sublist (List.drop_sublist _ _)).sublist (List.take_sublist _ _)
  have pos : ∀ y : Int, y ≠ 0 → 0 ≤ y * sg → 0 < y * sg := fun y h0 h1 => by rcases hs with rfl | rfl <;> omega
  have x1 := pos x hx0 (hsg x List.mem_cons_self)
  have inps : ∀ y ∈ (ps.drop (b + 1)).take (e - (b + 1)), y ∈ ps := fun y hy => List.mem_of_mem_drop (List.mem_of_mem_take hy)
  have hxl : iabs x ∉ liftedM ps (b + 1) e := fun z => by
    unfold liftedM at z
    obtain ⟨y, hy, ey⟩ := List.mem_map.mp z
    have y0 := ((pm y).mp (inps y hy)).1
    have y1 := pos y y0 (hsg y (List.mem_cons_of_mem _ hy))
    have hne : y ≠ x := fun q => (List.nodup_cons.mp ndS).1 (q ▸ hy)
    unfold iabs at ey
    rcases hs with rfl | rfl <;> (split at ey <;> split at ey <;> omega)
  -- the row with x: M ++ [x]
  generalize hM : (((ps.drop e ++ [0]) ++ ps.take b).filter fun z => !decide (iabs z ∈ liftedM ps (b + 1) e)) = M
  have er' : rowM ps (b + 1) e = M ++ [x] := by
    unfold rowM
    rw [List.take_add_one, List.getElem?_eq_getElem hbl, hxg, Option.toList_some, ← List.append_assoc, List.filter_append, hM]
    congr 1
    rw [List.filter_cons, if_pos (by simpa using hxl), List.filter_nil]
  have er : rowM ps b e = M.filter fun z => !decide (iabs z = iabs x) := by
    unfold rowM
    rw [← hM, List.filter_filter, lB]
    refine List.filter_congr fun z _ => ?_
    by_cases h1 : iabs z = iabs x
    · simp [h1]
    · simp [h1]
  have ndM := S'.ar.nd
  rw [show (rowM ps (b + 1) e, keptM ps ts (b + 1) e, (rowM ps (b + 1) e).length).1 = M ++ [x] from er'] at ndM
  have ndM2 := List.nodup_append.mp ndM
  have xM : x ∉ M := fun z => ndM2.2.2 x z x (by simp) rfl
  have yM : -x ∈ M := by
    have h1 : -x ∈ rowM ps (b + 1) e := (S'.ar.wf x (by show x ∈ rowM ps (b + 1) e; rw [er']; simp) hx0).1
    rw [er'] at h1
    rcases List.mem_append.mp h1 with h1 | h1
    · exact h1
    · have := List.mem_singleton.mp h1; omega
  have er2 : rowM ps b e = M.filter fun z => !decide (z = -x) := by
    rw [er]
    refine List.filter_congr fun z hz => ?_
    congr 1
    by_cases h1 : z = -x
    · subst h1; rw [decide_eq_true (iabs_neg x), decide_eq_true rfl]
    · rw [decide_eq_false h1, decide_eq_false]
      intro q
      have : z ≠ x := fun q => xM (q ▸ hz)
      unfold iabs at q
      split at q <;> split at q <;> omega
  obtain ⟨sp1, sp2⟩ := ne_split ndM2.1 yM
  have hlt := List.idxOf_lt_length_of_mem yM
  have hg' : (rowM ps (b + 1) e).idxOf (-x) = M.idxOf (-x) := by rw [er', List.idxOf_append, if_pos yM]
  rw [sp2] at er2
  have hlen : (M.take (M.idxOf (-x))).length = M.idxOf (-x) := by rw [List.length_take]; omega
  refine ⟨M.idxOf (-x), x, ⟨S.ar, S'.ar, ?_, ?_, hx0, fun z hz h0 => ?_⟩, rfl, hg'.symm⟩
  · rw [er2, List.length_append, hlen]; omega
  · rw [er', er2]
    have t1 : (M.take (M.idxOf (-x)) ++ M.drop (M.idxOf (-x) + 1)).take (M.idxOf (-x)) = M.take (M.idxOf (-x)) := by
      have := List.take_left (l₁ := M.take (M.idxOf (-x))) (l₂ := M.drop (M.idxOf (-x) + 1))
      rw [hlen] at this
      exact this
    have t2 : (M.take (M.idxOf (-x)) ++ M.drop (M.idxOf (-x) + 1)).drop (M.idxOf (-x)) = M.drop (M.idxOf (-x) + 1) := by
      have := List.drop_left (l₁ := M.take (M.idxOf (-x))) (l₂ := M.drop (M.idxOf (-x) + 1))
      rw [hlen] at this
      exact this
    rw [t1, t2, ← sp1]
  · have h1 := rowM_mem.mp hz
    have hzp : z ∈ ps := by
      rcases h1.1 with h | h | h
      · exact List.mem_of_mem_drop h
      · exact absurd h h0
      · exact List.mem_of_mem_take h
    have hb2 := (pm z).mp hzp
    have hp1 := iabs_pos h0
    have hn1 := h1.2
    have hn2 : iabs z ∉ liftedM ps (b + 1) e := fun q => hn1 (by rw [lB]; exact List.mem_cons_of_mem _ q)
    have e1 : dget (keptM ps ts b e) (iabs z) = some (ts.getD ((iabs z).toNat - 1) 0) := by
      unfold keptM
      rw [keptP_get]
      exact if_pos ⟨hp1, hb2.2, hn1⟩
    have e2 : dget (keptM ps ts (b + 1) e) (iabs z) = some (ts.getD ((iabs z).toNat - 1) 0) := by
      unfold keptM
      rw [keptP_get]
      exact if_pos ⟨hp1, hb2.2, hn2⟩
    unfold epsM
    rw [e1, e2]
theorem lift_faces (h : CF ps ts) (hs : sg = 1 ∨ sg = -1) {e : Nat} (he : e ≤ ps.length) : ∀ (n b : Nat), b + n = e → (∀ x ∈ (ps.drop b).take (e - b), 0 ≤ x * sg) → ((ts.length + 1 : Nat) : Int) - n ≤ (sidesN (rowM ps b e) (keptM ps ts b e)).2 ∧ (rowM ps b e).length + 2 * n = ps.length + 1
  | 0, b, hb, _ => by
    have : b = e := by omega
    subst this
    refine ⟨by have := cf_open h b; omega, ?_⟩
    rw [rowM_ee]; simp; omega
  | n + 1, b, hb, hsg => by
    have hbe : b < e := by omega
    have hsg' : ∀ x ∈ (ps.drop (b + 1)).take (e - (b + 1)), 0 ≤ x * sg := fun x hx => hsg x (by
      have hbl : b < ps.length := by omega
      rw [List.drop_eq_getElem_cons hbl, show e - b = (e - (b + 1)) + 1 by omega, List.take_succ_cons]
      exact List.mem_cons_of_mem _ hx)
    obtain ⟨i1, i2⟩ := lift_faces h hs he n (b + 1) (by omega) hsg'
    obtain ⟨g, x, K, _, _⟩ := lift_crs h.dr hs hbe he hsg
    have hl := K.len
    refine ⟨?_, by omega⟩
    by_cases hk : (((ts.length + 1 : Nat) : Int) - (n + 1 : Nat)) ≤ 0
    · have := (sides_num (bey_perm K.A)).2
      omega
    · have := ol_faces K.A (cross_less K (k := ts.length + 1 - (n + 1)) (by omega))
      omega
end
/-! steps -/
theorem cross_crs {a : Ast} (h : StOk a) {sg : Int} {s : Side} (hs : sg = 1 ∨ sg = -1) (hm : s ∈ openA a) : Crs a.1 (crossA sg a s).1 a.2.1 (crossA sg a s).2.1 s.1.toNat (sg * newN a.2.1) ∧ epsM (crossA sg a s).2.1 (sg * newN a.2.1) = s.2 ∧ s.1 = (s.1.toNat : Nat) ∧ s.1 ≤ a.1.length := by
  have h' := cross_ok h hs hm
  obtain ⟨⟨h1, h2, h3⟩, _⟩ := open_mem.mp hm
  obtain ⟨n1, n2⟩ := new_gt h.keys
  have hn := h.nle
  obtain ⟨a1, a2⟩ := sgn_abs hs n1
  have hx0 : sg * newN a.2.1 ≠ 0 := by rcases hs with rfl | rfl <;> omega
  refine ⟨⟨h.ar, h'.ar, by omega, ?_, hx0, fun z hz h0 => ?_⟩, ?_, by omega, by omega⟩
  · show crossRow a.1 a.2.1 s.1 sg = _
    unfold crossRow
    rw [Int.neg_mul]
  · have := h.ar.abs_lt h.keys hz h0
    have e : dget (crossA sg a s).2.1 (iabs z) = dget a.2.1 (iabs z) := by
      show dget (crossTn a.2.1 s.2 sg) (iabs z) = _
      rw [crossTn_get, if_neg (by omega)]
    unfold epsM
    rw [e]
  · have e : dget (crossA sg a s).2.1 (newN a.2.1) = some (sg * s.2) := by
      show dget (crossTn a.2.1 s.2 sg) (newN a.2.1) = _
      rw [crossTn_get, if_pos rfl]
    unfold epsM
    rw [a1, e]
    rcases hs with rfl | rfl
    · rw [if_neg (by omega)]; simp
    · rw [if_pos (by omega)]; simp
theorem lay_faces {sg : Int} (hs : sg = 1 ∨ sg = -1) : ∀ {w : List Side} {a : Ast} {k : Int}, StOk a → WayOk sg a w → k ≤ (sidesN a.1 a.2.1).2 → k + w.length ≤ (sidesN (layA sg a w).1 (layA sg a w).2.1).2
  | [], a, k, _, _, hk => by
    show k + (0 : Nat) ≤ (sidesN a.1 a.2.1).2
    omega
  | s :: w, a, k, h, ⟨h1, h2⟩, hk => by
    obtain ⟨K, e, e1, _⟩ := cross_crs h hs h1
    have h' := cross_ok h hs h1
    have hm := (open_mem.mp h1).2
    have hk' : k + 1 ≤ (sidesN (crossA sg a s).1 (crossA sg a s).2.1).2 := by
      have hc0 := (sides_num (bey_perm h.ar)).2
      have := ol_faces K.A' (cross_more K (k := (sidesN a.1 a.2.1).2.toNat) (by omega) (by
        rw [e, ← e1]
        exact fn_same hm))
      omega
    have := lay_faces hs (w := w) h' h2 hk'
    show k + ((w.length + 1 : Nat) : Int) ≤ (sidesN (layA sg (crossA sg a s) w).1 (layA sg (crossA sg a s) w).2.1).2
    omega
/-! joined -/
theorem lb_same {row row' : List Int} {tn tn' : List (Int × Int)} {u d : Nat → Int} (hl : row.length = row'.length) (B : Lb row tn u d)
    (h : ∀ i, i < row.length → (row.getD i 0 = 0 ∧ row'.getD i 0 = 0) ∨ (row.getD i 0 ≠ 0 ∧ row'.getD i 0 ≠ 0 ∧ row.idxOf (-(row.getD i 0)) = row'.idxOf (-(row'.getD i 0)) ∧ epsM tn' (row'.getD i 0) = epsM tn (row.getD i 0))) : Lb row' tn' u d := by
  refine ⟨fun i hi h0 => ?_, fun i hi h0 => ?_, fun i hi h0 => ?_⟩
  · rcases h i (by omega) with ⟨h1, _⟩ | ⟨_, h1, _⟩
    · exact B.z i (by omega) h1
    · exact absurd h0 h1
  · rcases h i (by omega) with ⟨_, h1⟩ | ⟨h1, _, h2, h3⟩
    · exact absurd h1 h0
    · rw [h3, ← h2]; exact B.pu i (by omega) h1
  · rcases h i (by omega) with ⟨_, h1⟩ | ⟨h1, _, h2, h3⟩
    · exact absurd h1 h0
    · rw [h3, ← h2]; exact B.pd i (by omega) h1
theorem cl_map {X : List Int} {ν : Int → Int} {tn tn' : List (Int × Int)} {k : Nat} (R : Ren X ν) (A : Ar (X ++ [0]) tn) (A' : Ar (X.map ν ++ [0]) tn') (eps : ∀ x ∈ X, epsM tn' (ν x) = epsM tn x) (h : CL (X ++ [0]) tn k) : CL (X.map ν ++ [0]) tn' k := by
  obtain ⟨u, d, B, e1, e2, M⟩ := h
  have hl : (X ++ [0]).length = (X.map ν ++ [0]).length := by simp
  have hlen : (X ++ [0]).length = X.length + 1 := by simp
  refine ⟨u, d, lb_same hl B fun i hi => ?_, by rw [← hl]; exact e1, by rw [← hl]; exact e2, by rw [← hl]; exact M⟩
  rw [hlen] at hi
  by_cases hL : i = X.length
  · subst hL
    left
    refine ⟨app0_last, ?_⟩
    have := app0_last (l := X.map ν)
    rw [List.length_map] at this
    exact this
  · right
    have hi : i < X.length := by omega
    have hm : X.getD i 0 ∈ X := getD_mem hi
    rw [app0_get hi, app0_get (by simpa using hi), map_get hi]
    refine ⟨R.nz _ hm, R.ne hm, ?_, eps _ hm⟩
    obtain ⟨o, ho, eo⟩ := List.mem_iff_getElem.mp (R.cl _ hm)
    have eo2 : X.getD o 0 = -(X.getD i 0) := by rw [← eo, List.getD_eq_getElem?_getD, List.getElem?_eq_getElem ho]; rfl
    have f1 := idx_get A.nd (i := o) (by rw [hlen]; omega)
    have f2 := idx_get A'.nd (i := o) (by rw [← hl, hlen]; omega)
    rw [app0_get ho, eo2] at f1
    rw [app0_get (by simpa using ho), map_get ho, eo2, R.odd _ hm] at f2
    rw [f1, f2]
/-- behind the mark, then ahead of it -/
def joinX (row : List Int) : List Int := row.drop (row.idxOf 0 + 1) ++ row.take (row.idxOf 0)
theorem join_split {row : List Int} (hz : (0 : Int) ∈ row) : row = (row.take (row.idxOf 0) ++ [0]) ++ row.drop (row.idxOf 0 + 1) := by
  have hlt := List.idxOf_lt_length_of_mem hz
  have h1 : row.drop (row.idxOf 0) = 0 :: row.drop (row.idxOf 0 + 1) := by
    rw [List.drop_eq_getElem_cons hlt]
    congr 1
    exact List.getElem_idxOf hlt
  conv => lhs; rw [← List.take_append_drop (row.idxOf 0) row, h1]
  simp
theorem join_perm {row : List Int} (hz : (0 : Int) ∈ row) : row.Perm (0 :: joinX row) := by
  have h := join_split hz
  have p1 : row.Perm (row.drop (row.idxOf 0 + 1) ++ (row.take (row.idxOf 0) ++ [0])) := by
    conv => lhs; rw [h]
    exact List.perm_append_comm
  rw [← List.append_assoc] at p1
  exact p1.trans (List.perm_append_singleton _ _)
theorem join_cl {a : Ast} (h : StOk a) {k : Nat} (hF : (k : Int) ≤ (sidesN a.1 a.2.1).2) (hm : meetsM a.1 a.2.1 = true) : CL (joinX a.1 ++ [0]) a.2.1 (k + 1) := by
  have hc := ol_cl h.ar hF hm
  have hs := join_split h.zero
  have A := h.ar
  rw [hs] at hc A
  have := cl_rot A hc
  unfold joinX
  rw [List.append_assoc]
  exact this
theorem join_ps {a : Ast} (h : StOk a) : Ps (joinX a.1) ∧ Ar (joinX a.1 ++ [0]) a.2.1 ∧ (joinX a.1).length + 1 = a.1.length ∧ ∀ x ∈ joinX a.1, ∃ t, dget a.2.1 (iabs x) = some t ∧ (t = 1 ∨ t = -1) := by
  have hp := join_perm h.zero
  have nd0 := hp.nodup_iff.mp h.ar.nd
  have nd := List.nodup_cons.mp nd0
  have mem : ∀ x, x ∈ joinX a.1 ↔ x ∈ a.1 ∧ x ≠ 0 := fun x => by
    rw [hp.mem_iff, List.mem_cons]
    constructor
    · intro hx
      exact ⟨.inr hx, fun z => nd.1 (z ▸ hx)⟩
    · rintro ⟨h1 | h1, h2⟩
      · exact absurd h1 h2
      · exact h1
  refine ⟨⟨nd.2, fun x hx => ((mem x).mp hx).2, fun x hx => ?_⟩, ⟨?_, fun x hx h0 => ?_, fun x hx h0 t ht => ?_⟩, ?_, fun x hx => ?_⟩
  · obtain ⟨h1, h2⟩ := (mem x).mp hx
    exact (mem (-x)).mpr ⟨(h.ar.wf x h1 h2).1, by omega⟩
  · have := (List.perm_append_singleton (0 : Int) (joinX a.1)).nodup_iff.mpr nd0
    exact this
  · have hx : x ∈ joinX a.1 := by
      rcases List.mem_append.mp hx with hx | hx
      · exact hx
      · exact absurd (List.mem_singleton.mp hx) h0
    obtain ⟨h1, h2⟩ := (mem x).mp hx
    obtain ⟨w1, w2⟩ := h.ar.wf x h1 h2
    exact ⟨List.mem_append_left _ ((mem (-x)).mpr ⟨w1, by omega⟩), w2⟩
  · have hx : x ∈ joinX a.1 := by
      rcases List.mem_append.mp hx with hx | hx
      · exact hx
      · exact absurd (List.mem_singleton.mp hx) h0
    obtain ⟨h1, h2⟩ := (mem x).mp hx
    exact h.ar.pm x h1 h2 t ht
  · have := hp.length_eq
    rw [List.length_cons] at this
    omega
  · obtain ⟨h1, h2⟩ := (mem x).mp hx
    obtain ⟨_, t, ht⟩ := h.ar.wf x h1 h2
    exact ⟨t, ht, h.ar.pm x h1 h2 t ht⟩
def tfA (tn : List (Int × Int)) (i : Int) : Int := (dget tn i).getD 0
/-- numbered anew, a drawing that can be closed -/
theorem join_cf {a : Ast} (h : StOk a) {n k : Nat} (hF : (k : Int) ≤ (sidesN a.1 a.2.1).2) (hm : meetsM a.1 a.2.1 = true) (hn : a.1.length = 2 * n + 1) (hk : n + 1 ≤ k) (h40 : n ≤ 40) : CF (lnP (joinX a.1)) (lnT (tfA a.2.1) (joinX a.1)) ∧ (lnT (tfA a.2.1) (joinX a.1)).length = n := by
  obtain ⟨P, A, hlen, htn⟩ := join_ps h
  have hcl := join_cl h hF hm
  generalize hX : joinX a.1 = X at *
  have hpl := ps_len P
  have hord : (ordM X).length = n := by omega
  have ht : ∀ x ∈ X, tfA a.2.1 (iabs x) = 1 ∨ tfA a.2.1 (iabs x) = -1 := fun x hx => by
    obtain ⟨t, e, p⟩ := htn x hx
    unfold tfA
    rw [e]
    exact p
  have hg : ∀ x ∈ X, dget a.2.1 (iabs x) = some (tfA a.2.1 (iabs x)) := fun x hx => by
    obtain ⟨t, e, _⟩ := htn x hx
    unfold tfA
    rw [e]; rfl
  have hlt : (lnT (tfA a.2.1) X).length = n := by unfold lnT; rw [List.length_map, hord]
  have A' := ln_ar P ht
  have c1 := cl_map (nu_ren P) A A' (ln_eps P hg) hcl
  have c2 : CL (lnP X ++ [0]) (keptM (lnP X) (lnT (tfA a.2.1) X) 0 0) ((lnT (tfA a.2.1) X).length + 2) := by
    obtain ⟨u, d, B, e1, e2, l, hn2, hl2, hv⟩ := c1
    exact ⟨u, d, B, e1, e2, l, hn2, by rw [hlt]; omega, hv⟩
  refine ⟨⟨?_, c2⟩, hlt⟩
  have hf := ol_faces A' (cl_ol (k := (lnT (tfA a.2.1) X).length + 1) c2)
  have hlp : (lnP X).length = 2 * (lnT (tfA a.2.1) X).length := by
    unfold lnP
    rw [List.length_map, hlt]; omega
  have hap := ap_ln P
  rw [hord, ← hlt] at hap
  have hpm : Pm (lnT (tfA a.2.1) X) := fun t htt => by
    unfold lnT at htt
    obtain ⟨z, hz, rfl⟩ := List.mem_map.mp htt
    obtain ⟨x, hx, rfl⟩ := ordM_mem hz
    exact ht x hx
  exact dr_is (by omega) hap hlp hpm (by omega)
/-- what is laid along a way that leads there -/
theorem lay_cf {ps ts : List Int} (h : CF ps ts) {sg : Int} (hs : sg = 1 ∨ sg = -1) {b e : Nat} (hbe : b ≤ e) (hel : e ≤ ps.length) (hsg : ∀ x ∈ (ps.drop b).take (e - b), 0 ≤ x * sg) {w : List Side} (hw : WayOk sg (rowM ps b e, keptM ps ts b e, (rowM ps b e).length) w)
    (hm : meetsM (layA sg (rowM ps b e, keptM ps ts b e, (rowM ps b e).length) w).1 (layA sg (rowM ps b e, keptM ps ts b e, (rowM ps b e).length) w).2.1 = true) (h40 : ts.length + w.length ≤ 40) :
    CF (lnP (joinX (layA sg (rowM ps b e, keptM ps ts b e, (rowM ps b e).length) w).1)) (lnT (tfA (layA sg (rowM ps b e, keptM ps ts b e, (rowM ps b e).length) w).2.1) (joinX (layA sg (rowM ps b e, keptM ps ts b e, (rowM ps b e).length) w).1)) ∧
    (lnT (tfA (layA sg (rowM ps b e, keptM ps ts b e, (rowM ps b e).length) w).2.1) (joinX (layA sg (rowM ps b e, keptM ps ts b e, (rowM ps b e).length) w).1)).length + (e - b) = ts.length + w.length := by
  obtain ⟨_, hl, hap, hpm⟩ := drD_parts h.dr
  have S := start_ok hap hl hpm hbe
  obtain ⟨f1, f2⟩ := lift_faces h hs hel (e - b) b (by omega) hsg
  have f3 := lay_faces hs S hw f1
  have f4 := (lay_len (sg := sg) (w := w) (a := (rowM ps b e, keptM ps ts b e, (rowM ps b e).length))).1
  have f5 : (layA sg (rowM ps b e, keptM ps ts b e, (rowM ps b e).length) w).1.length = (rowM ps b e).length + 2 * w.length := f4
  have hpos : e - b ≤ ts.length := by
    have hz := S.zero
    have : 1 ≤ (rowM ps b e).length := List.length_pos_of_mem hz
    omega
  have := join_cf (lay_ok hs S hw) (n := ts.length - (e - b) + w.length) (k := ts.length + 1 - (e - b) + w.length) (by omega) hm (by omega) (by omega) (by omega)
  refine ⟨this.1, ?_⟩
  rw [this.2]
  omega
end Ov

/-! Plain: a closed braid of one rope is a closed flat rope. -/
namespace Ov
open L2
section
variable {st : Nat} {w : Wd} {T : List Ev} {u : Int × Int} {tn : List (Int × Int)}
theorem braid_cl (E : EvOk st w T u) (ht : TnOk w tn) (g0 : ∃ l, l < w.length ∧ gn w l = 0) (g1 : ∃ l, l < w.length ∧ gn w l + 2 = st) : CL (rowE w T) tn (w.length + 2) := by
  have A := rowE_ar E ht
  obtain ⟨cg, cl⟩ := ch_get E.ch
  have pass : ∀ g, g < T.length → ∃ o, o < T.length ∧ T.getD o (0, 0) = oth w (T.getD g (0, 0)) ∧ (rowE w T).idxOf (-((rowE w T).getD g 0)) = o ∧ (T.getD g (0, 0)).1 < w.length ∧ isP w (T.getD g (0, 0)) = true := fun g hg => by
    obtain ⟨h1, h2⟩ := (E.mem _).mp (ev_get hg)
    obtain ⟨o, ho, eo⟩ := ev_at ((E.mem (oth w (T.getD g (0, 0)))).mpr ⟨h1, isP_oth h2⟩)
    refine ⟨o, ho, eo, ?_, h1, h2⟩
    rw [rowE_get hg, ← xv_oth h2, ← eo, ← rowE_get ho, idx_get A.nd (by rw [rowE_len]; omega)]
  have mn : ∀ g, g ≤ T.length → min g T.length = g := fun g hg => Nat.min_eq_left hg
  refine ⟨fun g => (valAt st w u T (min g T.length)).2, fun g => (valAt st w u T (min g T.length)).1, ⟨fun i hi h0 => ?_, fun i hi h0 => ?_, fun i hi h0 => ?_⟩, ?_, ?_, (-1 : Int) :: (-2) :: (List.range w.length).map (fun i : Nat => (i : Int)), labs_nd, by simp, fun y hy => ?_⟩
  · rw [rowE_len] at hi
    have hL : i = T.length := by
      rcases Nat.lt_or_ge i T.length with h | h
      · have h1 := ((E.mem _).mp (ev_get h)).1
        rw [rowE_get h] at h0
        exact absurd h0 (xv_ne E.ok h1)
      · omega
    subst hL
    simp only [Nat.min_self, Nat.min_eq_right (Nat.le_succ T.length), and_self]
  · rw [rowE_len] at hi
    have hi : i < T.length := by
      rcases Nat.lt_or_ge i T.length with h | h
      · exact h
      · have : i = T.length := by omega
        subst this
        exact absurd rowE_last h0
    obtain ⟨o, ho, eo, io, h1, h2⟩ := pass i hi
    have go := cg o ho
    rw [eo] at go
    have so : valAt st w u T (o + 1) = lamN st w (oth w (T.getD i (0, 0))) := by rw [← eo]; rfl
    rw [io, rowE_get hi, xv_eps E.ok ht h1]
    simp only [mn i (by omega), mn o (by omega), mn (o + 1) (by omega)]
    rw [← cg i hi, so, ← go]
    generalize T.getD i (0, 0) = e at *
    obtain ⟨l, p⟩ := e
    simp only at h1
    by_cases hp : p = gn w l
    · subst hp
      rw [if_pos rfl, if_neg (by decide)]
      unfold lam oth
      simp only [if_true]
    · have hp2 : p = gn w l + 1 := by
        have := isP_or h2
        simp only at this
        omega
      subst hp2
      simp only [hp, if_false, if_true]
      unfold lam lamN oth stp
      simp only [hp, if_false, if_true]
      rw [fc_step (by omega)]
  · rw [rowE_len] at hi
    have hi : i < T.length := by
      rcases Nat.lt_or_ge i T.length with h | h
      · exact h
      · have : i = T.length := by omega
        subst this
        exact absurd rowE_last h0
    obtain ⟨o, ho, eo, io, h1, h2⟩ := pass i hi
    have go := cg o ho
    rw [eo] at go
    have si : valAt st w u T (i + 1) = lamN st w (T.getD i (0, 0)) := rfl
    have so : valAt st w u T (o + 1) = lamN st w (oth w (T.getD i (0, 0))) := by rw [← eo]; rfl
    rw [io, rowE_get hi, xv_eps E.ok ht h1]
    simp only [mn (i + 1) (by omega), mn o (by omega), mn (o + 1) (by omega)]
    rw [si, so, ← go]
    generalize T.getD i (0, 0) = e at *
    obtain ⟨l, p⟩ := e
    simp only at h1
    by_cases hp : p = gn w l
    · subst hp
      rw [if_pos rfl, if_pos rfl]
      unfold lamN oth stp
      simp
    · have hp2 : p = gn w l + 1 := by
        have := isP_or h2
        simp only at this
        omega
      subst hp2
      simp only [hp, if_false, show ¬ ((1 : Int) = -1) by decide]
      unfold lam lamN oth stp
      simp only [hp, if_false, if_true]
      rw [fc_step (by omega)]
  · simp only [rowE_len, Nat.min_eq_right (Nat.le_succ T.length), Nat.zero_min, cl]
    rfl
  · simp only [rowE_len, Nat.min_eq_right (Nat.le_succ T.length), Nat.zero_min, cl]
    rfl
  · rcases List.mem_cons.mp hy with rfl | h1
    · obtain ⟨l, hl, hg⟩ := g0
      have hm : ((l, 0) : Ev) ∈ T := (E.mem _).mpr ⟨hl, by unfold isP; simp [hg]⟩
      obtain ⟨g, hg1, hg2⟩ := ev_at hm
      refine ⟨g, by rw [rowE_len]; omega, .inr ?_⟩
      simp only [mn g (by omega)]
      rw [← cg g hg1, hg2]
      show fcM st w 0 l = -1
      unfold fcM; rw [if_pos rfl]
    · rcases List.mem_cons.mp h1 with rfl | h1
      · obtain ⟨l, hl, hg⟩ := g1
        have hm : ((l, gn w l + 1) : Ev) ∈ T := (E.mem _).mpr ⟨hl, by unfold isP; simp⟩
        obtain ⟨g, hg1, hg2⟩ := ev_at hm
        refine ⟨g, by rw [rowE_len]; omega, .inl ?_⟩
        simp only [mn g (by omega)]
        rw [← cg g hg1, hg2]
        show fcM st w (gn w l + 1 + 1) l = -2
        unfold fcM; rw [if_neg (by omega), if_pos (by omega)]
      · obtain ⟨l, hl, rfl⟩ := List.mem_map.mp h1
        have hl := List.mem_range.mp hl
        have hm : ((l, gn w l) : Ev) ∈ T := (E.mem _).mpr ⟨hl, by unfold isP; simp⟩
        obtain ⟨g, hg1, hg2⟩ := ev_at hm
        have hgn := (gn_ok E.ok hl).1
        refine ⟨g + 1, by rw [rowE_len]; omega, .inr ?_⟩
        simp only [mn (g + 1) (by omega)]
        show (lamN st w (T.getD g (0, 0))).1 = _
        rw [hg2]
        show fcM st w (stp w l (gn w l)) (l + 1) = _
        rw [show stp w l (gn w l) = gn w l + 1 by unfold stp; rw [if_pos rfl], fc_at hgn]
theorem braid_cf (K : Knot st w) (h40 : w.length ≤ 40) (E : EvOk st w T u) : CF (dps w T) (dts w T) ∧ (dts w T).length = w.length := by
  have hlt : (dts w T).length = w.length := by unfold dts lnT; rw [List.length_map, ev_ord E]
  refine ⟨⟨braid_drw K h40 E, ?_⟩, hlt⟩
  rw [hlt]
  by_cases h2 : 2 ≤ st
  · have P := ev_ps E
    have ht := ev_tf E
    exact cl_map (nu_ren P) (rowE_ar E (tnW_ok w)) (ln_ar P fun x hx => (ht x hx).1) (ln_eps P fun x hx => (ht x hx).2) (braid_cl E (tnW_ok w) (gens_lo K h2) (gens_hi K h2))
  · have hw : w = [] := by
      cases w with
      | nil => rfl
      | cons a r =>
        have := (K.ok a List.mem_cons_self).1
        omega
    subst hw
    have hT : T = [] := by
      cases T with
      | nil => rfl
      | cons e r =>
        have := ((E.mem e).mp List.mem_cons_self).1
        simp at this
    subst hT
    refine ⟨fun _ => 0, fun _ => 1, ⟨fun i hi h0 => ⟨rfl, rfl⟩, fun i hi h0 => ?_, fun i hi h0 => ?_⟩, rfl, rfl, [0, 1], by decide, by decide, fun y hy => ?_⟩
    · have : i = 0 := by have h1 : (dps [] ([] : List Ev) ++ [0]).length = 1 := rfl; omega
      subst this
      exact absurd rfl h0
    · have : i = 0 := by have h1 : (dps [] ([] : List Ev) ++ [0]).length = 1 := rfl; omega
      subst this
      exact absurd rfl h0
    · rcases List.mem_cons.mp hy with rfl | hy
      · exact ⟨0, Nat.zero_le _, .inl rfl⟩
      · rw [List.mem_singleton.mp hy]
        exact ⟨0, Nat.zero_le _, .inr rfl⟩
end
theorem drawn_cf (x : Int) (most : Nat) (h : most ≤ 30) : CF (drawnPs x most) (drawnTs x most) ∧ (drawnTs x most).length ≤ most + 3 := by
  obtain ⟨T, u, E, e1, e2⟩ := drawn_ev x most
  have K := braid_knot x most
  have hl : (braidM x most).2.length ≤ most + 3 := (braidW_ok _ most).2
  rw [e1, e2]
  generalize braidM x most = bm at *
  obtain ⟨st, w⟩ := bm
  simp only at *
  obtain ⟨a, b⟩ := braid_cf K (by omega) E
  exact ⟨a, by omega⟩
end Ov

/-! is None; plain: drawn ways that lead there. -/
namespace Ov
open PySem L2
def isNonD : D → Bool
  | .non => true
  | _ => false
section
variable {X : Cx} {c : Cc} {m1 m2 : Mo} {d : D}
theorem re_non {K : PySem.W.Frag} {C : Addr} {H : Hp} {v : V} {d : D} (r : Re K C H v d) : decide (v = V.non) = isNonD d := by
  cases r <;> first | rfl | exact decide_eq_true rfl | exact decide_eq_false (by intro z; cases z)
theorem o_isN : Op2 X c (compareOp .Is) m1 d m2 .non .val (.bl (isNonD d)) :=
  ⟨_, op_isN, fun δ S σ x y g r1 r2 Q q => by
    have e2 : y = .non := by
      have := Good.now g.toGoodH r2
      cases this; rfl
    refine ⟨e2, ?_⟩
    rw [re_non (Good.now g.toGoodH r1)]
    exact q _ S (Le.refl c S) g (.bl _)⟩
theorem o_notN : Op2 X c (compareOp .IsNot) m1 d m2 .non .val (.bl (!isNonD d)) :=
  ⟨_, op_notN, fun δ S σ x y g r1 r2 Q q => by
    have e2 : y = .non := by
      have := Good.now g.toGoodH r2
      cases this; rfl
    refine ⟨e2, ?_⟩
    rw [re_non (Good.now g.toGoodH r1)]
    exact q _ S (Le.refl c S) g (.bl _)⟩
end
/-! ways -/
/-- the step that is drawn -/
def pickW (xs : List Int) (a : Ast) (k : Nat) : Side := (openA a).getD (xs.getD k 0 % ((openA a).length : Int)).toNat (0, 0)
def wayGo (sg : Int) (xs : List Int) (a0 : Ast) : Nat → Nat → List Side → Option (List Side)
  | 0, _, _ => none
  | n + 1, k, way =>
    if meetsM (layA sg a0 way).1 (layA sg a0 way).2.1 = true ∧ xs.getD 7 0 % 4 ≤ (k : Int) then some way
    else if (layA sg a0 way).2.1.length < 9 ∧ k < 6 then wayGo sg xs a0 n (k + 1) (way ++ [pickW xs (layA sg a0 way) k])
    else wayGo sg xs a0 n (k + 1) way
structure WyOk (sg : Int) (a0 : Ast) (way : List Side) : Prop where
  ok : WayOk sg a0 way
  few : way = [] ∨ (layA sg a0 way).2.1.length ≤ 9
theorem pick_mem {xs : List Int} {a : Ast} {k : Nat} (h : StOk a) : pickW xs a k ∈ openA a ∧ (openA a)[(xs.getD k 0 % ((openA a).length : Int)).toNat]? = some (pickW xs a k) := by
  have hnl : 0 < (openA a).length := List.length_pos_iff.mpr h.ne
  have hm1 := Int.emod_nonneg (xs.getD k 0) (show ((openA a).length : Int) ≠ 0 by omega)
  have hm2 := Int.emod_lt_of_pos (xs.getD k 0) (show (0 : Int) < (openA a).length by omega)
  have hlt : (xs.getD k 0 % ((openA a).length : Int)).toNat < (openA a).length := by omega
  have e : (openA a)[(xs.getD k 0 % ((openA a).length : Int)).toNat]? = some (pickW xs a k) := by
    unfold pickW
    generalize (xs.getD k 0 % ((openA a).length : Int)).toNat = j at *
    rw [List.getD_eq_getElem?_getD, List.getElem?_eq_getElem hlt]; rfl
  exact ⟨List.mem_of_getElem? e, e⟩
theorem wy_step {sg : Int} (hs : sg = 1 ∨ sg = -1) {xs : List Int} {a0 : Ast} (h0 : StOk a0) {way : List Side} {k : Nat} (h : WyOk sg a0 way) (h9 : (layA sg a0 way).2.1.length < 9) : WyOk sg a0 (way ++ [pickW xs (layA sg a0 way) k]) := by
  have S := lay_ok hs h0 h.ok
  refine ⟨wayOk_snoc h.ok (pick_mem S).1, .inr ?_⟩
  rw [layA_snoc]
  have : (crossA sg (layA sg a0 way) (pickW xs (layA sg a0 way) k)).2.1.length ≤ (layA sg a0 way).2.1.length + 1 := dput_length _ _ _
  omega
theorem wayGo_ok {sg : Int} (hs : sg = 1 ∨ sg = -1) {xs : List Int} {a0 : Ast} (h0 : StOk a0) : ∀ (n k : Nat) (way w : List Side), wayGo sg xs a0 n k way = some w → WyOk sg a0 way → way.length ≤ k → WyOk sg a0 w ∧ meetsM (layA sg a0 w).1 (layA sg a0 w).2.1 = true ∧ w.length ≤ n + k
  | 0, _, _, _, h, _, _ => by cases h
  | n + 1, k, way, w, h, hw, hl => by
    unfold wayGo at h
    split at h
    · rename_i hc
      cases h
      exact ⟨hw, hc.1, by omega⟩
    · split at h
      · rename_i hc
        have := wayGo_ok hs h0 n (k + 1) _ w h (wy_step hs h0 hw hc.1) (by rw [List.length_append]; show way.length + 1 ≤ k + 1; omega)
        exact ⟨this.1, this.2.1, by omega⟩
      · have := wayGo_ok hs h0 n (k + 1) _ w h hw (by omega)
        exact ⟨this.1, this.2.1, by omega⟩
/-- how many turns are kept -/
theorem keptP_many (ts lf : List Int) : ∀ n, n ≤ (keptP ts lf n).length + ((List.range n).filter fun i : Nat => decide ((i : Int) + 1 ∈ lf)).length
  | 0 => Nat.zero_le _
  | n + 1 => by
    have ih := keptP_many ts lf n
    rw [keptP_succ, List.range_succ, List.filter_append, List.length_append]
    by_cases h : ((n : Int) + 1) ∈ lf
    · rw [if_pos h, List.filter_cons, if_pos (by simpa using h), List.filter_nil]
      show n + 1 ≤ _ + (_ + 1)
      omega
    · rw [if_neg h, List.filter_cons, if_neg (by simpa using h), List.filter_nil]
      have hn : dget (keptP ts lf n) ((n : Int) + 1) = none := by
        rw [keptP_get, if_neg (by omega)]
      rw [dput_new hn, List.length_append]
      show n + 1 ≤ (_ + 1) + (_ + 0)
      omega
theorem kept_many (ps ts : List Int) (b e : Nat) : ts.length ≤ (keptM ps ts b e).length + (e - b) := by
  have h := keptP_many ts (liftedM ps b e) ts.length
  have h2 : ((List.range ts.length).filter fun i : Nat => decide ((i : Int) + 1 ∈ liftedM ps b e)).length ≤ (liftedM ps b e).length := by
    have := nodup_le (l := ((List.range ts.length).filter fun i : Nat => decide ((i : Int) + 1 ∈ liftedM ps b e)).map fun i : Nat => (i : Int) + 1) (m := liftedM ps b e) (nodup_map_of (List.nodup_range.filter _) fun x _ y _ e => by omega) fun y hy => by
      obtain ⟨i, hi, rfl⟩ := List.mem_map.mp hy
      exact of_decide_eq_true (List.mem_filter.mp hi).2
    rw [List.length_map] at this
    exact this
  have h3 : (liftedM ps b e).length ≤ e - b := by unfold liftedM; rw [List.length_map, List.length_take]; omega
  unfold keptM
  omega
theorem lay_many {sg : Int} (hs : sg = 1 ∨ sg = -1) : ∀ {w : List Side} {a : Ast}, StOk a → WayOk sg a w → (layA sg a w).2.1.length = a.2.1.length + w.length
  | [], _, _, _ => rfl
  | s :: w, a, h, ⟨h1, h2⟩ => by
    have e := lay_many hs (w := w) (cross_ok h hs h1) h2
    have e2 : (crossA sg a s).2.1.length = a.2.1.length + 1 := by
      show (crossTn a.2.1 s.2 sg).length = _
      rw [crossTn_app h.keys, List.length_append]; rfl
    show (layA sg (crossA sg a s) w).2.1.length = a.2.1.length + (w.length + 1)
    omega
/-- a move that is drawn: what comes of it is a drawing, not too long -/
theorem move_cf {ps ts : List Int} (h : CF ps ts) (h10 : ts.length ≤ 10) {sg : Int} (hs : sg = 1 ∨ sg = -1) {b e : Nat} (hbe : b ≤ e) (hel : e ≤ ps.length) (hsg : ∀ x ∈ (ps.drop b).take (e - b), 0 ≤ x * sg) {w : List Side} (hw : WyOk sg (rowM ps b e, keptM ps ts b e, (rowM ps b e).length) w) (hl : w.length ≤ 20)
    (hm : meetsM (layA sg (rowM ps b e, keptM ps ts b e, (rowM ps b e).length) w).1 (layA sg (rowM ps b e, keptM ps ts b e, (rowM ps b e).length) w).2.1 = true) :
    CF (lnP (joinX (layA sg (rowM ps b e, keptM ps ts b e, (rowM ps b e).length) w).1)) (lnT (tfA (layA sg (rowM ps b e, keptM ps ts b e, (rowM ps b e).length) w).2.1) (joinX (layA sg (rowM ps b e, keptM ps ts b e, (rowM ps b e).length) w).1)) ∧
    (lnT (tfA (layA sg (rowM ps b e, keptM ps ts b e, (rowM ps b e).length) w).2.1) (joinX (layA sg (rowM ps b e, keptM ps ts b e, (rowM ps b e).length) w).1)).length ≤ 10 := by
  obtain ⟨_, hl2, hap, hpm⟩ := drD_parts h.dr
  have S := start_ok hap hl2 hpm hbe
  obtain ⟨c1, c2⟩ := lay_cf h hs hbe hel hsg hw.ok hm (by omega)
  refine ⟨c1, ?_⟩
  have k1 := kept_many ps ts b e
  have k2 := lay_many hs S hw.ok
  rcases hw.few with h0 | h9
  · subst h0
    have : ([] : List Side).length = 0 := rfl
    omega
  · have k2 : (layA sg (rowM ps b e, keptM ps ts b e, (rowM ps b e).length) w).2.1.length = (keptM ps ts b e).length + w.length := k2
    omega
end Ov

/-! Plain: as many values as faces: sides of one value lie in one face; arcs with other names. -/
namespace Ov
open L2
theorem sd_keep {row : List Int} {tn : List (Int × Int)} (A : Ar row tn) {u d : Nat → Int} (B : Lb row tn u d) (e1 : u row.length = d row.length) (e2 : d 0 = u 0) {x : Side} (hx : isSide row.length x) : sdF u d (beyondM row tn (placesM row) x) = sdF u d x := by
  rw [bey_all A hx]
  rcases side_kind hx with ⟨i, hi, rfl⟩ | ⟨i, hi, rfl⟩ | rfl | rfl
  · rw [bey_up hi, sd_up]
    by_cases h0 : row.getD i 0 = 0
    · rw [if_pos (.inl h0), sd_up1]
      exact (B.z i hi h0).1.symm
    · have hin := (A.wf _ (get_mem hi) h0).1
      rw [if_neg (by rintro (z | z); exact h0 z; exact absurd (List.idxOf_lt_length_of_mem hin) (by omega)), sd_if]
      exact (B.pu i hi h0).symm
  · rw [bey_dn hi, sd_dn1]
    by_cases h0 : row.getD i 0 = 0
    · rw [if_pos (.inl h0), sd_dn]
      exact (B.z i hi h0).2.symm
    · have hin := (A.wf _ (get_mem hi) h0).1
      rw [if_neg (by rintro (z | z); exact h0 z; exact absurd (List.idxOf_lt_length_of_mem hin) (by omega)), sd_if]
      exact (B.pd i hi h0).symm
  · rw [bey_end, sd_up, sd_dn, e1]
  · rw [bey_beg]
    have a1 := sd_up u d 0
    have a2 := sd_dn u d 0
    exact a1.trans (e2.symm.trans a2.symm)
/-- of labels with a value for each face, sides of one value lie in one face -/
theorem same_of {row : List Int} {tn : List (Int × Int)} (A : Ar row tn) {u d : Nat → Int} (B : Lb row tn u d) (e1 : u row.length = d row.length) (e2 : d 0 = u 0) {k : Nat} (M : Many row.length u d k) (hk : (sidesN row tn).2 ≤ k)
    {x y : Side} (hx : isSide row.length x) (hy : isSide row.length y) (h : sdF u d x = sdF u d y) : sameF row tn x y = true := by
  refine Classical.byContradiction fun hne => ?_
  have hne : dget (sidesM row tn) x ≠ dget (sidesM row tn) y := fun z => hne (decide_eq_true z)
  obtain ⟨N, hc⟩ := sides_num (bey_perm A)
  obtain ⟨vx, hvx⟩ := sides_has row tn hx
  obtain ⟨l, hn, hl, hv⟩ := M
  have side_of : ∀ z ∈ l, ∃ s, isSide row.length s ∧ sdF u d s = z := fun z hz => by
    obtain ⟨i, hi, q | q⟩ := hv z hz
    · exact ⟨_, up_side hi, (sd_up u d i).trans q⟩
    · exact ⟨_, dn_side hi, (sd_dn u d i).trans q⟩
  generalize hc0 : sdF u d x = c at *
  have f := faces_ge A (fun s => (sdF u d s, decide (dget (sidesM row tn) s = dget (sidesM row tn) x))) (fun s hs => by
    obtain ⟨v, hv⟩ := sides_has row tn hs
    show (sdF u d (beyondM row tn (placesM row) s), decide (dget (sidesM row tn) (beyondM row tn (placesM row) s) = _)) = _
    rw [sd_keep A B e1 e2 hs, hv, N.inv s v hv])
    (((l.filter fun z => !decide (z = c)).map fun z => (z, @decide (∃ s, isSide row.length s ∧ sdF u d s = z ∧ dget (sidesM row tn) s = dget (sidesM row tn) x) (Classical.propDecidable _))) ++ [(c, true), (c, false)]) ?_ ?_
  · have h1 := filter_ne_len hn c
    simp only [List.length_append, List.length_map, List.length_cons, List.length_nil] at f
    omega
  · refine List.nodup_append.mpr ⟨nodup_map_of (hn.filter _) fun a _ b _ e => congrArg Prod.fst e, by simp, fun p hp q hq e => ?_⟩
    subst e
    obtain ⟨z, hz, rfl⟩ := List.mem_map.mp hp
    have hz := (List.mem_filter.mp hz).2
    have hz : z ≠ c := by simpa using hz
    simp only [List.mem_cons, List.not_mem_nil, or_false, Prod.mk.injEq] at hq
    rcases hq with ⟨q, _⟩ | ⟨q, _⟩ <;> exact hz q
  · intro p hp
    rcases List.mem_append.mp hp with hp | hp
    · obtain ⟨z, hz, rfl⟩ := List.mem_map.mp hp
      have hz := (List.mem_filter.mp hz).1
      by_cases hq : ∃ s, isSide row.length s ∧ sdF u d s = z ∧ dget (sidesM row tn) s = dget (sidesM row tn) x
      · obtain ⟨s, s1, s2, s3⟩ := hq
        refine ⟨s, s1, ?_⟩
        show (sdF u d s, decide (dget (sidesM row tn) s = dget (sidesM row tn) x)) = _
        have : (@decide (∃ s, isSide row.length s ∧ sdF u d s = z ∧ dget (sidesM row tn) s = dget (sidesM row tn) x) (Classical.propDecidable _)) = true := by
          simp only [decide_eq_true_eq]; exact ⟨s, s1, s2, s3⟩
        rw [this, s2, decide_eq_true s3]
      · obtain ⟨s, s1, s2⟩ := side_of z hz
        refine ⟨s, s1, ?_⟩
        show (sdF u d s, decide (dget (sidesM row tn) s = dget (sidesM row tn) x)) = _
        have : (@decide (∃ s, isSide row.length s ∧ sdF u d s = z ∧ dget (sidesM row tn) s = dget (sidesM row tn) x) (Classical.propDecidable _)) = false := by
          simp only [decide_eq_false_iff_not]; exact hq
        rw [this, s2, decide_eq_false fun s3 => hq ⟨s, s1, s2, s3⟩]
    · simp only [List.mem_cons, List.not_mem_nil, or_false] at hp
      rcases hp with rfl | rfl
      · exact ⟨x, hx, by show (sdF u d x, decide _) = _; rw [hc0, decide_eq_true rfl]⟩
      · exact ⟨y, hy, by show (sdF u d y, decide _) = _; rw [← h, decide_eq_false fun z => hne z.symm]⟩
/-- a closed rope cut open: the ends meet -/
theorem cl_ol2 {row : List Int} {tn : List (Int × Int)} {k : Nat} (h : CL row tn (k + 1)) : ∃ u d, (Lb row tn u d ∧ u row.length = d row.length ∧ d 0 = u 0 ∧ Many row.length u d k) ∧ d 0 = u row.length := by
  obtain ⟨u, d, B, e1, e2, l, hn, hk, hl⟩ := h
  have mu : ∀ (f : Int → Int) (c : Prop) [Decidable c] (x y : Int), f (if c then x else y) = if c then f x else f y := fun f c _ x y => by split <;> rfl
  refine ⟨fun i => if u i = d 0 then u 0 else u i, fun i => if d i = d 0 then u 0 else d i, ⟨⟨fun i hi h0 => ?_, fun i hi h0 => ?_, fun i hi h0 => ?_⟩, ?_, ?_, l.filter fun y => !decide (y = d 0), hn.filter _, ?_, fun y hy => ?_⟩, ?_⟩
  · obtain ⟨a, b⟩ := B.z i hi h0
    simp only [a, b, and_self]
  · have := congrArg (fun x => if x = d 0 then u 0 else x) (B.pu i hi h0)
    simp only [mu (fun x => if x = d 0 then u 0 else x)] at this
    exact this
  · have := congrArg (fun x => if x = d 0 then u 0 else x) (B.pd i hi h0)
    simp only [mu (fun x => if x = d 0 then u 0 else x)] at this
    exact this
  · simp only [e1, e2, if_true]
    split <;> rfl
  · simp only [if_true]
    split <;> rfl
  · have := filter_ne_len hn (d 0)
    omega
  · obtain ⟨h1, h2⟩ := List.mem_filter.mp hy
    have h2 : y ≠ d 0 := by simpa using h2
    obtain ⟨i, hi, h | h⟩ := hl y h1
    · exact ⟨i, hi, .inl (by simp only [h, if_neg h2])⟩
    · exact ⟨i, hi, .inr (by simp only [h, if_neg h2])⟩
  · simp only [e1, if_true]
    split <;> rfl
/-- the same arc, by other names -/
structure Rn (row row' : List Int) (tn tn' : List (Int × Int)) (ν : Int → Int) : Prop where
  eq : row' = row.map ν
  z : ν 0 = 0
  odd : ∀ x ∈ row, ν (-x) = -ν x
  inj : ∀ x ∈ row, ∀ y ∈ row, ν x = ν y → x = y
  neg : ∀ x ∈ row, (ν x < 0 ↔ x < 0)
  ep : ∀ x ∈ row, x ≠ 0 → epsM tn' (ν x) = epsM tn x
section
variable {row row' : List Int} {tn tn' : List (Int × Int)} {ν : Int → Int}
theorem Rn.refl (row : List Int) (tn : List (Int × Int)) : Rn row row tn tn id := ⟨(List.map_id _).symm, rfl, fun _ _ => rfl, fun _ _ _ _ e => e, fun _ _ => Iff.rfl, fun _ _ _ => rfl⟩
theorem Rn.len (R : Rn row row' tn tn' ν) : row'.length = row.length := by rw [R.eq, List.length_map]
theorem Rn.ne (R : Rn row row' tn tn' ν) (A : Ar row tn) {x : Int} (hx : x ∈ row) (h0 : x ≠ 0) : ν x ≠ 0 := fun z => by
  have h1 := R.odd x hx
  rw [z] at h1
  have := R.inj (-x) (A.wf x hx h0).1 x hx (by rw [h1, z]; rfl)
  omega
theorem Rn.get (R : Rn row row' tn tn' ν) {i : Nat} (h : i < row.length) : row'.getD i 0 = ν (row.getD i 0) := by rw [R.eq]; exact map_get h
theorem Rn.idx (R : Rn row row' tn tn' ν) (A : Ar row tn) (A' : Ar row' tn') {x : Int} (hx : x ∈ row) : row'.idxOf (ν x) = row.idxOf x := by
  have hlt := List.idxOf_lt_length_of_mem hx
  have e := idx_get A'.nd (i := row.idxOf x) (by rw [R.len]; exact hlt)
  rw [R.get hlt, get_idx hx] at e
  exact e
theorem Rn.lb (R : Rn row row' tn tn' ν) (A : Ar row tn) (A' : Ar row' tn') {u d : Nat → Int} (B : Lb row tn u d) : Lb row' tn' u d := by
  refine lb_same R.len.symm B fun i hi => ?_
  have hm := get_mem (row := row) hi
  rw [R.get hi]
  by_cases h0 : row.getD i 0 = 0
  · left
    exact ⟨h0, by rw [h0, R.z]⟩
  · right
    have hn := (A.wf _ hm h0).1
    refine ⟨h0, R.ne A hm h0, ?_, R.ep _ hm h0⟩
    rw [← R.odd _ hm, R.idx A A' hn]
/-- a crossing more, by either names -/
theorem Rn.cross (R : Rn row row' tn tn' ν) {row1 row1' : List Int} {tn1 tn1' : List (Int × Int)} {g : Nat} {x y : Int} (K : Crs row row1 tn tn1 g x) (K' : Crs row' row1' tn' tn1' g y) (hs : y < 0 ↔ x < 0) (he : epsM tn1' y = epsM tn1 x) :
    ∃ ν', Rn row1 row1' tn1 tn1' ν' := by
  have A := K.A
  have A1 := K.A'
  have mem1 : ∀ z ∈ row1, z = x ∨ z = -x ∨ z ∈ row := fun z hz => by
    rw [K.eq] at hz
    simp only [List.mem_append, List.mem_singleton] at hz
    rcases hz with ((hz | hz) | hz) | hz
    · exact .inr (.inr (List.mem_of_mem_take hz))
    · exact .inr (.inl hz)
    · exact .inr (.inr (List.mem_of_mem_drop hz))
    · exact .inl hz
  have x0 := K.x0
  have y0 := K'.x0
  have nx : x ∉ row ∧ -x ∉ row := by
    have nd := A1.nd
    rw [K.eq] at nd
    have h1 := List.nodup_append.mp nd
    have h2 := List.nodup_append.mp h1.1
    have h3 := List.nodup_append.mp h2.1
    have tk : ∀ z ∈ row, z ∈ row.take g ∨ z ∈ row.drop g := fun z hz => by
      rw [← List.take_append_drop g row] at hz
      exact List.mem_append.mp hz
    refine ⟨fun h => ?_, fun h => ?_⟩
    · rcases tk _ h with q | q
      · exact h1.2.2 x (by simp [q]) x (by simp) rfl
      · exact h1.2.2 x (by simp [q]) x (by simp) rfl
    · rcases tk _ h with q | q
      · exact h3.2.2 _ q (-x) (by simp) rfl
      · exact h2.2.2 (-x) (by simp) _ q rfl
  have ny : ∀ z ∈ row, ν z ≠ y ∧ ν z ≠ -y := by
    have nd := K'.A'.nd
    rw [K'.eq] at nd
    have h1 := List.nodup_append.mp nd
    have h2 := List.nodup_append.mp h1.1
    have h3 := List.nodup_append.mp h2.1
    intro z hz
    have hz' : ν z ∈ row' := by rw [R.eq]; exact List.mem_map.mpr ⟨z, hz, rfl⟩
    rw [← List.take_append_drop g row'] at hz'
    rcases List.mem_append.mp hz' with q | q
    · exact ⟨fun e => h1.2.2 _ (List.mem_append_left _ (List.mem_append_left _ q)) y (by simp) e, fun e => h3.2.2 _ q (-y) (by simp) e⟩
    · exact ⟨fun e => h1.2.2 _ (List.mem_append_right _ q) y (by simp) e, fun e => h2.2.2 (-y) (by simp) _ q e.symm⟩
  obtain ⟨μ, hμ⟩ : ∃ μ : Int → Int, ∀ z, μ z = if z = x then y else if z = -x then -y else ν z := ⟨_, fun _ => rfl⟩
  have m1 : μ x = y := by rw [hμ, if_pos rfl]
  have m2 : μ (-x) = -y := by rw [hμ, if_neg (by omega), if_pos rfl]
  have m3 : ∀ z ∈ row, μ z = ν z := fun z hz => by
    have q1 : z ≠ x := by rintro rfl; exact nx.1 hz
    have q2 : z ≠ -x := by rintro rfl; exact nx.2 hz
    rw [hμ, if_neg q1, if_neg q2]
  have m0 : μ 0 = 0 := by rw [hμ, if_neg (by omega), if_neg (by omega), R.z]
  have old : ∀ z ∈ row, z ≠ 0 → -z ∈ row := fun z hz h0 => (A.wf z hz h0).1
  have inrow : ∀ z ∈ row, -z ∈ row := fun z hz => by
    by_cases h0 : z = 0
    · subst h0; exact hz
    · exact old z hz h0
  refine ⟨μ, ?_, m0, fun z hz => ?_, fun a ha b hb e => ?_, fun z hz => ?_, fun z hz h0 => ?_⟩
  · rw [K.eq, K'.eq, R.eq]
    simp only [List.map_append, List.map_cons, List.map_nil, m1, m2, ← List.map_take, ← List.map_drop]
    have t1 : (row.take g).map μ = (row.take g).map ν := List.map_congr_left fun z hz => m3 z (List.mem_of_mem_take hz)
    have t2 : (row.drop g).map μ = (row.drop g).map ν := List.map_congr_left fun z hz => m3 z (List.mem_of_mem_drop hz)
    rw [t1, t2]
  · rcases mem1 z hz with rfl | rfl | hz
    · rw [m2, m1]
    · rw [Int.neg_neg, m1, m2, Int.neg_neg]
    · rw [m3 z hz, m3 _ (inrow z hz), R.odd z hz]
  · rcases mem1 a ha with rfl | rfl | ha <;> rcases mem1 b hb with rfl | rfl | hb
    · rfl
    · rw [m1, m2] at e; omega
    · rw [m1, m3 b hb] at e; exact absurd e.symm (ny b hb).1
    · rw [m1, m2] at e; omega
    · rfl
    · rw [m2, m3 b hb] at e; exact absurd e.symm (ny b hb).2
    · rw [m1, m3 a ha] at e; exact absurd e (ny a ha).1
    · rw [m2, m3 a ha] at e; exact absurd e (ny a ha).2
    · rw [m3 a ha, m3 b hb] at e; exact R.inj a ha b hb e
  · rcases mem1 z hz with rfl | rfl | hz
    · rw [m1]; exact hs
    · rw [m2]; omega
    · rw [m3 z hz]; exact R.neg z hz
  · rcases mem1 z hz with rfl | rfl | hz
    · rw [m1]; exact he
    · rw [m2, epsM_neg _ y0, epsM_neg _ x0, he]
    · have hz' : ν z ∈ row' := by rw [R.eq]; exact List.mem_map.mpr ⟨z, hz, rfl⟩
      rw [m3 z hz, K'.ep _ hz' (R.ne A hz h0), K.ep z hz h0]
      exact R.ep z hz h0
end
end Ov

/-! Plain: a stretch laid back along the way as it lay. -/
namespace Ov
open L2
/-- at most one face more than crossings: two passes each, and the mark -/
theorem faces_le2 {row : List Int} {tn : List (Int × Int)} (A : Ar row tn) (hz : (0 : Int) ∈ row) : 2 * (sidesN row tn).2 ≤ (row.length : Int) + 1 := by
  obtain ⟨N, hc0⟩ := sides_num (bey_perm A)
  obtain ⟨reps, hlen, hcov⟩ := cover A row.length (Nat.le_refl _)
  obtain ⟨l, l1, l2, l3⟩ := crossN_list A.nd row.length (Nat.le_refl _)
  have hpos : ∀ y ∈ l, 1 ≤ y := fun y hy => by
    obtain ⟨i, i1, i2, _, rfl⟩ := l3 y hy
    exact iabs_pos i2
  have hin : ∀ y ∈ l, y ∈ row ∧ -y ∈ row := fun y hy => by
    obtain ⟨i, i1, i2, _, rfl⟩ := l3 y hy
    have hm := get_mem (row := row) i1
    have hw := (A.wf _ hm i2).1
    unfold iabs
    split
    · exact ⟨hw, by rw [Int.neg_neg]; exact hm⟩
    · exact ⟨hm, hw⟩
  have hl2 : ∀ l : List Int, (l.flatMap fun y => [y, -y]).length = 2 * l.length := by
    intro l
    induction l with
    | nil => rfl
    | cons a l ih => rw [List.flatMap_cons, List.length_append, ih]; simp; omega
  have hnd : ∀ l : List Int, l.Nodup → (∀ y ∈ l, 1 ≤ y) → (l.flatMap fun y => [y, -y]).Nodup := by
    intro l
    induction l with
    | nil => intro _ _; exact List.nodup_nil
    | cons a l ih =>
      intro h1 h2
      have hna := List.nodup_cons.mp h1
      have ha := h2 a List.mem_cons_self
      rw [List.flatMap_cons, List.nodup_append]
      refine ⟨by simp; omega, ih hna.2 fun y hy => h2 y (List.mem_cons_of_mem _ hy), fun x hx y hy e => ?_⟩
      subst e
      obtain ⟨z, hz, hz2⟩ := List.mem_flatMap.mp hy
      have hzp := h2 z (List.mem_cons_of_mem _ hz)
      simp only [List.mem_cons, List.not_mem_nil, or_false] at hx hz2
      have : a = z := by omega
      subst this
      exact hna.1 hz
  have hl : 2 * l.length + 1 ≤ row.length := by
    have := nodup_le (l := 0 :: l.flatMap fun y => [y, -y]) (m := row) (List.nodup_cons.mpr ⟨fun h0 => ?_, hnd l l2 hpos⟩) fun x hx => ?_
    · rw [List.length_cons, hl2] at this; omega
    · obtain ⟨y, hy, hy2⟩ := List.mem_flatMap.mp h0
      have := hpos y hy
      simp only [List.mem_cons, List.not_mem_nil, or_false] at hy2
      omega
    · rcases List.mem_cons.mp hx with rfl | hx
      · exact hz
      · obtain ⟨y, hy, hy2⟩ := List.mem_flatMap.mp hx
        simp only [List.mem_cons, List.not_mem_nil, or_false] at hy2
        rcases hy2 with h | h
        · rw [h]; exact (hin y hy).1
        · rw [h]; exact (hin y hy).2
  have con : ∀ {s r : Side}, Con (beyP row tn row.length) row.length s r → dget (sidesM row tn) s = dget (sidesM row tn) r := fun {s r} h => by
    refine h.keep (f := fun s => dget (sidesM row tn) s) fun x hx => ?_
    rw [← bey_all A hx]
    obtain ⟨v, hv⟩ := sides_has row tn hx
    show dget (sidesM row tn) _ = dget (sidesM row tn) x
    rw [hv]
    exact N.inv x v hv
  have := nodup_le (l := (List.range (sidesN row tn).2.toNat).map fun i : Nat => some (i : Int)) (m := reps.map fun r => dget (sidesM row tn) r) (List.Pairwise.map _ (fun a b (h : a ≠ b) e => h (by have := Option.some.inj e; omega)) List.nodup_range) fun y hy => by
    obtain ⟨i, hi, rfl⟩ := List.mem_map.mp hy
    have hi := List.mem_range.mp hi
    obtain ⟨x, hx⟩ := N.all (i : Int) (by omega) (by omega)
    obtain ⟨r, hr, hc⟩ := hcov x (N.ok.side hx)
    exact List.mem_map.mpr ⟨r, hr, by rw [← con hc]; exact hx⟩
  rw [List.length_map, List.length_map, List.length_range] at this
  omega
section
variable {ps ts : List Int} {sg : Int}
theorem sg_nz (hs : sg = 1 ∨ sg = -1) {y : Int} (h0 : y ≠ 0) (h1 : 0 ≤ y * sg) : 0 < y * sg := by rcases hs with rfl | rfl <;> omega
/-- what was laid lies behind all -/
theorem row_tail (hd : isDrw (drD ps ts) = true) (hs : sg = 1 ∨ sg = -1) {b j e : Nat} (hb : b + j ≤ e) (he : e ≤ ps.length) (hsg : ∀ x ∈ (ps.drop b).take (e - b), 0 ≤ x * sg) :
    ∃ L, rowM ps (b + j) e = L ++ (ps.drop b).take j ∧ (0 : Int) ∈ L := by
  obtain ⟨h40, hl, hap, hpm⟩ := drD_parts hd
  obtain ⟨pm, nd⟩ := passes_pair hap hl
  have e1 : ps.take (b + j) = ps.take b ++ (ps.drop b).take j := by rw [List.take_add]
  have dB : (ps.drop b).take (e - b) = (ps.drop b).take j ++ (ps.drop (b + j)).take (e - (b + j)) := by
    rw [show e - b = j + (e - (b + j)) by omega, List.take_add, List.drop_drop]
  have ndS : ((ps.drop b).take (e - b)).Nodup := (nd.sublist (List.drop_sublist _ _)).sublist (List.take_sublist _ _)
  have keep : ∀ y ∈ (ps.drop b).take j, iabs y ∉ liftedM ps (b + j) e := fun y hy z => by
    unfold liftedM at z
    obtain ⟨x, hx, ex⟩ := List.mem_map.mp z
    have inps : ∀ y ∈ (ps.drop b).take (e - b), y ∈ ps := fun y hy => List.mem_of_mem_drop (List.mem_of_mem_take hy)
    have hy1 : y ∈ (ps.drop b).take (e - b) := by rw [dB]; exact List.mem_append_left _ hy
    have hx1 : x ∈ (ps.drop b).take (e - b) := by rw [dB]; exact List.mem_append_right _ hx
    have y1 := sg_nz hs ((pm y).mp (inps y hy1)).1 (hsg y hy1)
    have x1 := sg_nz hs ((pm x).mp (inps x hx1)).1 (hsg x hx1)
    rw [dB] at ndS
    have hne := (List.nodup_append.mp ndS).2.2 y hy x hx
    unfold iabs at ex
    rcases hs with rfl | rfl <;> (split at ex <;> split at ex <;> omega)
  refine ⟨((ps.drop e ++ [0]) ++ ps.take b).filter (fun x => !decide (iabs x ∈ liftedM ps (b + j) e)), ?_, ?_⟩
  · unfold rowM
    rw [e1, ← List.append_assoc, List.filter_append, List.filter_eq_self (l := (ps.drop b).take j) |>.mpr fun y hy => by simpa using keep y hy]
  · refine List.mem_filter.mpr ⟨by simp, ?_⟩
    have : (0 : Int) ∉ liftedM ps (b + j) e := fun z => by
      unfold liftedM at z
      obtain ⟨x, hx, ex⟩ := List.mem_map.mp z
      have := iabs_pos ((pm x).mp (List.mem_of_mem_drop (List.mem_of_mem_take hx))).1
      omega
    simpa [iabs] using this
theorem idx_app {L T : List Int} {x : Int} (h : x ∈ L) : (L ++ T).idxOf x < L.length := by
  rw [List.idxOf_append, if_pos h]
  exact List.idxOf_lt_length_of_mem h
/-- the way along which a stretch lies -/
def backW (ps ts : List Int) (e : Nat) : Nat → Nat → List Side
  | 0, _ => []
  | n + 1, b => (((rowM ps (b + 1) e).idxOf (-(ps.getD b 0)) : Nat), epsM (keptM ps ts (b + 1) e) (ps.getD b 0)) :: backW ps ts e n (b + 1)
theorem backW_len (ps ts : List Int) (e : Nat) : ∀ n b, (backW ps ts e n b).length = n
  | 0, _ => rfl
  | n + 1, b => by show (backW ps ts e n (b + 1)).length + 1 = n + 1; rw [backW_len ps ts e n]
theorem drop_sign {b e : Nat} (hb : b < e) (he : e ≤ ps.length) (hsg : ∀ x ∈ (ps.drop b).take (e - b), 0 ≤ x * sg) : (∀ x ∈ (ps.drop (b + 1)).take (e - (b + 1)), 0 ≤ x * sg) ∧ 0 ≤ ps.getD b 0 * sg := by
  have hbl : b < ps.length := by omega
  rw [List.drop_eq_getElem_cons hbl, show e - b = (e - (b + 1)) + 1 by omega, List.take_succ_cons] at hsg
  refine ⟨fun x hx => hsg x (List.mem_cons_of_mem _ hx), ?_⟩
  have : ps.getD b 0 = ps[b] := by rw [List.getD_eq_getElem?_getD, List.getElem?_eq_getElem hbl]; rfl
  rw [this]
  exact hsg _ List.mem_cons_self
/-- one step of it can be done -/
theorem back_step (h : CF ps ts) (hs : sg = 1 ∨ sg = -1) {b0 j e : Nat} (hb : b0 + j < e) (he : e ≤ ps.length) (hsg : ∀ x ∈ (ps.drop b0).take (e - b0), 0 ≤ x * sg)
    {a : Ast} (S : StOk a) (hn : a.2.2 + j = a.1.length) {ν : Int → Int} (R : Rn (rowM ps (b0 + j) e) a.1 (keptM ps ts (b0 + j) e) a.2.1 ν) (s : Side) (hse : s = ((((rowM ps (b0 + j + 1) e).idxOf (-(ps.getD (b0 + j) 0)) : Nat) : Int), epsM (keptM ps ts (b0 + j + 1) e) (ps.getD (b0 + j) 0))) :
    s ∈ openA a ∧ ∃ ν', Rn (rowM ps (b0 + j + 1) e) (crossA sg a s).1 (keptM ps ts (b0 + j + 1) e) (crossA sg a s).2.1 ν' := by
  obtain ⟨h40, hl, hap, hpm⟩ := drD_parts h.dr
  have sub : ∀ x ∈ (ps.drop (b0 + j)).take (e - (b0 + j)), 0 ≤ x * sg := fun x hx => hsg x (by
    rw [show e - b0 = j + (e - (b0 + j)) by omega, List.take_add, List.drop_drop]
    exact List.mem_append_right _ hx)
  obtain ⟨sub1, sx⟩ := drop_sign hb he sub
  obtain ⟨g, x, K, ex, eg⟩ := lift_crs h.dr hs hb he sub
  obtain ⟨f1, f2⟩ := lift_faces h hs he (e - (b0 + j + 1)) (b0 + j + 1) (by omega) sub1
  have hlen := K.len
  have x0 := K.x0
  rw [← ex] at sx hse
  rw [← eg] at hse
  have sx1 := sg_nz hs x0 sx
  obtain ⟨L, eL, hzL⟩ := row_tail h.dr hs (b := b0) (j := j + 1) (e := e) (by omega) he hsg
  have eL : rowM ps (b0 + j + 1) e = L ++ (ps.drop b0).take (j + 1) := eL
  have hLl : L.length + (j + 1) = (rowM ps (b0 + j + 1) e).length := by rw [eL]; simp; omega
  have hLp : 1 ≤ L.length := List.length_pos_of_mem hzL
  have hnx : -x ∈ L := by
    have hm : -x ∈ rowM ps (b0 + j + 1) e := by rw [K.eq]; simp
    rw [eL] at hm
    rcases List.mem_append.mp hm with hm | hm
    · exact hm
    · have hm2 : -x ∈ (ps.drop b0).take (e - b0) := by
        rw [show e - b0 = (j + 1) + (e - (b0 + j + 1)) by omega, List.take_add]
        exact List.mem_append_left _ hm
      have := hsg _ hm2
      rcases hs with rfl | rfl <;> omega
  have hg : g < L.length := by rw [eg, eL]; exact idx_app hnx
  have hRl := R.len
  -- labels
  obtain ⟨u, d, ⟨B, l1, l2, M⟩, lab⟩ := cross_less2 K (k := ts.length - (e - (b0 + j + 1))) (by omega)
  have B' := R.lb K.A S.ar B
  have fl := faces_le2 S.ar S.zero
  have hex : epsM (keptM ps ts (b0 + j + 1) e) x = 1 ∨ epsM (keptM ps ts (b0 + j + 1) e) x = -1 := K.A'.eps (by rw [K.eq]; simp) x0
  have same : sameF a.1 a.2.1 s ((a.1.length : Int), 1) = true := by
    refine same_of S.ar B' (by rw [hRl]; exact l1) l2 (by rw [hRl]; exact M) (by omega) (by rw [hse]; rcases hex with q | q <;> rw [q]; exact up_side (by omega); exact dn_side (by omega)) (up_side (Nat.le_refl _)) ?_
    rw [hse, lab, sd_up, hRl]
  have hop : s ∈ openA a := open_mem.mpr ⟨by rw [hse]; exact ⟨by simp only; omega, by simp only; omega, hex⟩, same⟩
  refine ⟨hop, ?_⟩
  obtain ⟨K', c1, c2, c3⟩ := cross_crs S hs hop
  have n1 := (new_gt S.keys).1
  have egs : s.1.toNat = g := by rw [hse]; simp
  rw [egs] at K'
  refine R.cross K K' ?_ ?_
  · rcases hs with rfl | rfl <;> omega
  · rw [c1, hse]
/-- laid along that way, the stretch lies as it lay -/
theorem back_lay (h : CF ps ts) (hs : sg = 1 ∨ sg = -1) {b0 e : Nat} (he : e ≤ ps.length) (hsg : ∀ x ∈ (ps.drop b0).take (e - b0), 0 ≤ x * sg) :
    ∀ (n j : Nat), b0 + j + n = e → ∀ (a : Ast) (ν : Int → Int), StOk a → a.2.2 + j = a.1.length → Rn (rowM ps (b0 + j) e) a.1 (keptM ps ts (b0 + j) e) a.2.1 ν →
      WayOk sg a (backW ps ts e n (b0 + j)) ∧ ∃ ν', Rn (rowM ps e e) (layA sg a (backW ps ts e n (b0 + j))).1 (keptM ps ts e e) (layA sg a (backW ps ts e n (b0 + j))).2.1 ν'
  | 0, j, hj, a, ν, S, hn, R => by
    have : b0 + j = e := by omega
    refine ⟨trivial, ν, ?_⟩
    show Rn (rowM ps e e) a.1 (keptM ps ts e e) a.2.1 ν
    rw [this] at R
    exact R
  | n + 1, j, hj, a, ν, S, hn, R => by
    obtain ⟨h1, ν1, R1⟩ := back_step h hs (by omega) he hsg S hn R _ rfl
    have S1 := cross_ok S hs h1
    obtain ⟨s, hse⟩ : ∃ s : Side, s = ((((rowM ps (b0 + j + 1) e).idxOf (-(ps.getD (b0 + j) 0)) : Nat) : Int), epsM (keptM ps ts (b0 + j + 1) e) (ps.getD (b0 + j) 0)) := ⟨_, rfl⟩
    rw [← hse] at h1 R1 S1
    obtain ⟨q1, q2⟩ := (lay_len (sg := sg) (w := [s]) (a := a))
    have q1 : (crossA sg a s).1.length = a.1.length + 2 * 1 := q1
    have q2 : (crossA sg a s).2.2 = a.2.2 + 1 := q2
    obtain ⟨i1, ν2, R2⟩ := back_lay h hs he hsg n (j + 1) (by omega) (crossA sg a s) ν1 S1 (by omega) R1
    show WayOk sg a ((((((rowM ps (b0 + j + 1) e).idxOf (-(ps.getD (b0 + j) 0)) : Nat) : Int), epsM (keptM ps ts (b0 + j + 1) e) (ps.getD (b0 + j) 0)) : Side) :: backW ps ts e n (b0 + j + 1)) ∧ ∃ ν', Rn (rowM ps e e) (layA sg a ((((((rowM ps (b0 + j + 1) e).idxOf (-(ps.getD (b0 + j) 0)) : Nat) : Int), epsM (keptM ps ts (b0 + j + 1) e) (ps.getD (b0 + j) 0)) : Side) :: backW ps ts e n (b0 + j + 1))).1 (keptM ps ts e e) (layA sg a ((((((rowM ps (b0 + j + 1) e).idxOf (-(ps.getD (b0 + j) 0)) : Nat) : Int), epsM (keptM ps ts (b0 + j + 1) e) (ps.getD (b0 + j) 0)) : Side) :: backW ps ts e n (b0 + j + 1))).2.1 ν'
    rw [← hse]
    exact ⟨⟨h1, i1⟩, ν2, R2⟩
/-- and the ends meet -/
theorem back_meets (h : CF ps ts) {e : Nat} (he : e ≤ ps.length) {a : Ast} (S : StOk a) {ν : Int → Int} (R : Rn (rowM ps e e) a.1 (keptM ps ts e e) a.2.1 ν) : meetsM a.1 a.2.1 = true := by
  obtain ⟨h40, hl, hap, hpm⟩ := drD_parts h.dr
  have S0 := start_ok hap hl hpm (Nat.le_refl e)
  have A := dr_ar hap hl hpm
  have ek : keptM ps ts e e = keptM ps ts 0 0 := by unfold keptM; rw [lifted_ee, lifted_ee]
  have hcl : CL (rowM ps e e) (keptM ps ts e e) (ts.length + 1 + 1) := by
    rw [rowM_ee, ek]
    have e1 : ps ++ [0] = ps.take e ++ (ps.drop e ++ [0]) := by rw [← List.append_assoc, List.take_append_drop]
    have hc := h.cl
    rw [e1] at hc A
    exact cl_rot A hc
  obtain ⟨u, d, ⟨B, l1, l2, M⟩, lab⟩ := cl_ol2 hcl
  have B' := R.lb S0.ar S.ar B
  have fl := faces_le2 S.ar S.zero
  have hRl := R.len
  have hrl : (rowM ps e e).length = ps.length + 1 := by rw [rowM_ee]; simp; omega
  refine same_of S.ar B' (by rw [hRl]; exact l1) l2 (by rw [hRl]; exact M) (by omega) (up_side (Nat.le_refl _)) (dn_side (Nat.zero_le _)) ?_
  rw [sd_up, hRl]
  exact lab.symm.trans (sd_dn u d 0).symm
/-- numbered anew it is the drawing -/
theorem back_num (h : isDrw (drD ps ts) = true) {e : Nat} (he : e ≤ ps.length) {a : Ast} (S : StOk a) {ν : Int → Int} (R : Rn (rowM ps e e) a.1 (keptM ps ts e e) a.2.1 ν) : joinX a.1 = ps.map ν ∧ lnP (joinX a.1) = ps ∧ lnT (tfA a.2.1) (joinX a.1) = ts ∧ a.1.length = ps.length + 1 ∧ a.1.idxOf 0 = ps.length - e := by
  obtain ⟨h40, hl, hap, hpm⟩ := drD_parts h
  obtain ⟨pm, nd⟩ := passes_pair hap hl
  have S0 := start_ok hap hl hpm (Nat.le_refl e)
  have hrow := rowM_ee ps e
  have mem : ∀ x ∈ ps, x ∈ rowM ps e e := fun x hx => by
    rw [hrow]
    rw [← List.take_append_drop e ps] at hx
    rcases List.mem_append.mp hx with q | q
    · exact List.mem_append_right _ q
    · exact List.mem_append_left _ (List.mem_append_left _ q)
  have h0 : (0 : Int) ∉ ps := fun z => ((pm 0).mp z).1 rfl
  have h0d : (0 : Int) ∉ ps.drop e := fun z => h0 (List.mem_of_mem_drop z)
  have i0 : (rowM ps e e).idxOf 0 = ps.length - e := by
    rw [hrow, List.append_assoc, List.idxOf_append, if_neg h0d]
    simp
  have hz : (0 : Int) ∈ rowM ps e e := S0.zero
  have ia : a.1.idxOf 0 = ps.length - e := by
    have := R.idx S0.ar S.ar hz
    rw [R.z] at this
    omega
  have hj : joinX a.1 = ps.map ν := by
    unfold joinX
    rw [ia, R.eq, hrow, ← List.map_drop, ← List.map_take, ← List.map_append]
    have d1 : ((ps.drop e ++ [0]) ++ ps.take e).drop (ps.length - e + 1) = ps.take e := List.drop_left' (by simp)
    have d2 : ((ps.drop e ++ [0]) ++ ps.take e).take (ps.length - e) = ps.drop e := by rw [List.append_assoc]; exact List.take_left' (by simp)
    rw [d1, d2, List.take_append_drop]
  -- numbers as they are met
  have abs_nu : ∀ x ∈ ps, iabs (ν x) = ν (iabs x) := fun x hx => by
    have hm := mem x hx
    have h1 := R.neg x hm
    unfold iabs
    by_cases q : x < 0
    · rw [if_pos q, if_pos (h1.mpr q), R.odd x hm]
    · rw [if_neg q, if_neg (fun z => q (h1.mp z))]
  have absin : ∀ x ∈ ps, iabs x ∈ ps := fun x hx => by
    obtain ⟨a1, a2⟩ := (pm x).mp hx
    refine (pm _).mpr ⟨by have := iabs_pos a1; omega, ?_⟩
    unfold iabs at a2 ⊢
    split at a2 <;> split <;> omega
  have eo : ordM (ps.map ν) = (ordM ps).map ν := by
    show dd ((ps.map ν).map iabs) = _
    have : (ps.map ν).map iabs = (ps.map iabs).map ν := by
      rw [List.map_map, List.map_map]
      exact List.map_congr_left abs_nu
    rw [this]
    refine dd_map_inj _ fun x hx y hy e => ?_
    obtain ⟨x', hx', rfl⟩ := List.mem_map.mp hx
    obtain ⟨y', hy', rfl⟩ := List.mem_map.mp hy
    exact R.inj _ (mem _ (absin _ hx')) _ (mem _ (absin _ hy')) e
  obtain ⟨m, hm⟩ := ap_ord ps [] hap ⟨0, rfl⟩
  rw [List.nil_append] at hm
  have em : m = ts.length := by
    have le : m ≤ ts.length := by
      by_cases z : m = 0
      · omega
      · have : (m : Int) ∈ ordM ps := by rw [hm]; exact rg1_mem.mpr ⟨by omega, by omega⟩
        obtain ⟨x, hx, e⟩ := ordM_mem this
        have := ((pm x).mp hx).2
        omega
    have ge : ts.length ≤ m := by
      by_cases z : ts.length = 0
      · omega
      · have : (ts.length : Int) ∈ ps := (pm ts.length).mpr ⟨by omega, by unfold iabs; split <;> omega⟩
        have := mem_ordM this
        rw [hm, rg1_mem] at this
        unfold iabs at this
        split at this <;> omega
    omega
  subst em
  have idx1 : ∀ x ∈ ps, ((ordM ps).idxOf (iabs x) : Int) + 1 = iabs x := fun x hx => by
    obtain ⟨a1, a2⟩ := (pm x).mp hx
    have p1 := iabs_pos a1
    have hg := rg1_get (n := ts.length) (k := (iabs x).toNat - 1) (by omega)
    have hlt : (iabs x).toNat - 1 < (ordM ps).length := by rw [hm, rg1_len]; omega
    have := idx_get (ordM_nd ps) hlt
    rw [hm, List.getD_eq_getElem?_getD, hg] at this
    have e1 : (some (1 + (((iabs x).toNat - 1 : Nat) : Int))).getD 0 = iabs x := by show 1 + (((iabs x).toNat - 1 : Nat) : Int) = iabs x; omega
    rw [e1] at this
    rw [hm, this]; omega
  refine ⟨hj, ?_, ?_, by have := R.len; rw [this, hrow]; simp; omega, ia⟩
  · rw [hj, lnP_map, List.map_map]
    conv => rhs; rw [← List.map_id ps]
    refine List.map_congr_left fun x hx => ?_
    show (((ordM (ps.map ν)).idxOf (iabs (ν x)) : Nat) + 1 : Int) * (if decide (ν x < 0) = true then -1 else 1) = x
    have hs := R.neg x (mem x hx)
    have e1 : (ordM (ps.map ν)).idxOf (iabs (ν x)) = (ordM ps).idxOf (iabs x) := by
      rw [abs_nu x hx, eo]
      have hmm := mem_ordM hx
      have hlt := List.idxOf_lt_length_of_mem hmm
      have hn : ((ordM ps).map ν).Nodup := nodup_map_of (ordM_nd ps) fun a ha b hb e => by
        obtain ⟨x', hx', rfl⟩ := ordM_mem ha
        obtain ⟨y', hy', rfl⟩ := ordM_mem hb
        exact R.inj _ (mem _ (absin _ hx')) _ (mem _ (absin _ hy')) e
      have := idx_get hn (i := (ordM ps).idxOf (iabs x)) (by simpa using hlt)
      rw [List.getD_eq_getElem?_getD, List.getElem?_map, List.getElem?_eq_getElem hlt, List.getElem_idxOf hlt] at this
      exact this
    rw [e1, idx1 x hx]
    simp only [hs]
    unfold iabs
    by_cases q : x < 0
    · simp [q]
    · simp [q]
  · unfold lnT
    rw [hj, eo, hm, List.map_map]
    refine List.ext_getElem? fun k => ?_
    rw [List.getElem?_map]
    by_cases hk : k < ts.length
    · rw [rg1_get hk]
      have hkp : (1 + (k : Int)) ∈ ps := (pm _).mpr ⟨by omega, by unfold iabs; split <;> omega⟩
      have hkr := mem _ hkp
      have hep := R.ep _ hkr (by omega)
      have hng := (R.neg _ hkr)
      have hnn : ¬ ν (1 + (k : Int)) < 0 := fun z => by have := hng.mp z; omega
      have ek : dget (keptM ps ts e e) (1 + (k : Int)) = some (ts.getD k 0) := by
        unfold keptM
        rw [keptP_get, lifted_ee, if_pos ⟨by omega, by omega, by simp⟩]
        congr 2
        omega
      unfold epsM at hep
      rw [if_neg hnn, if_neg (by omega), show iabs (1 + (k : Int)) = 1 + (k : Int) by unfold iabs; rw [if_neg (by omega)], ek, show iabs (ν (1 + (k : Int))) = ν (1 + (k : Int)) by unfold iabs; rw [if_neg hnn]] at hep
      show some (tfA a.2.1 (ν (1 + (k : Int)))) = ts[k]?
      unfold tfA
      rw [hep, List.getElem?_eq_getElem hk]
      show some (ts.getD k 0) = _
      rw [List.getD_eq_getElem?_getD, List.getElem?_eq_getElem hk]; rfl
    · rw [List.getElem?_eq_none (by rw [rg1_len]; omega), List.getElem?_eq_none (by omega)]; rfl
end
end Ov

/-! Plain: what a move made lies back along the way as it was laid. -/
namespace Ov
open L2
section
variable {row row' row1 row1' : List Int} {tn tn' tn1 tn1' : List (Int × Int)} {ν : Int → Int} {g g' : Nat} {x x' : Int}
theorem Rn.uncross (K : Crs row row1 tn tn1 g x) (K' : Crs row' row1' tn' tn1' g' x') (R : Rn row1 row1' tn1 tn1' ν) : x' = ν x ∧ g' = g ∧ epsM tn1' x' = epsM tn1 x ∧ Rn row row' tn tn' ν := by
  have l1 := K.len
  have l2 := K'.len
  have l3 := R.len
  have hx : x ∈ row1 := by rw [K.eq]; simp
  have hnx : -x ∈ row1 := by rw [K.eq]; simp
  have e1 : x' = ν x := by
    have := R.get (i := row.length + 1) (by omega)
    rw [K.last, show row.length + 1 = row'.length + 1 by omega, K'.last] at this
    exact this
  have e2 : g' = g := by
    have := R.idx K.A' K'.A' hnx
    rw [R.odd x hx, ← e1, K.idx_y, K'.idx_y] at this
    exact this
  subst e2
  have sub : ∀ z ∈ row, z ∈ row1 := fun z hz => by
    rw [K.eq]
    rw [← List.take_append_drop g' row] at hz
    rcases List.mem_append.mp hz with q | q
    · exact List.mem_append_left _ (List.mem_append_left _ (List.mem_append_left _ q))
    · exact List.mem_append_left _ (List.mem_append_right _ q)
  have hrow : row' = row.map ν := by
    have e := R.eq
    rw [K.eq, K'.eq, List.map_append, List.map_append, List.map_append] at e
    have hg := K.hg
    have hg' := K'.hg
    have p1 := (List.append_inj e (by simp; omega)).1
    obtain ⟨p2, p3⟩ := List.append_inj p1 (by simp; omega)
    obtain ⟨p4, _⟩ := List.append_inj p2 (by simp; omega)
    rw [← List.take_append_drop g' row', p4, p3, ← List.map_append, List.take_append_drop]
  refine ⟨e1, rfl, by rw [e1]; exact R.ep x hx K.x0, hrow, R.z, fun z hz => R.odd z (sub z hz), fun a ha b hb => R.inj a (sub a ha) b (sub b hb), fun z hz => R.neg z (sub z hz), fun z hz h0 => ?_⟩
  have hz' : ν z ∈ row' := by rw [hrow]; exact List.mem_map.mpr ⟨z, hz, rfl⟩
  have hn := R.ne K.A' (sub z hz) h0
  rw [← K'.ep _ hz' hn, R.ep z (sub z hz) h0, K.ep z hz h0]
end
/-- the laid passes lie behind all -/
theorem lay_tail {sg : Int} (hs : sg = 1 ∨ sg = -1) : ∀ {w : List Side} {a : Ast} {l t : List Int}, StOk a → WayOk sg a w → a.1 = l ++ t → l.length = a.2.2 → (0 : Int) ∈ l → (∀ x ∈ t, 0 < x * sg) →
    ∃ l' t', (layA sg a w).1 = l' ++ t' ∧ (0 : Int) ∈ l' ∧ t'.length = t.length + w.length ∧ ∀ x ∈ t', 0 < x * sg
  | [], a, l, t, _, _, e, _, hz, ht => ⟨l, t, e, hz, rfl, ht⟩
  | s :: w, a, l, t, S, ⟨h1, h2⟩, e, hl, hz, ht => by
    obtain ⟨⟨s1, s2, s3⟩, _⟩ := open_mem.mp h1
    have n1 := (new_gt S.keys).1
    have e2 : (crossA sg a s).1 = (l.take s.1.toNat ++ [-sg * newN a.2.1] ++ l.drop s.1.toNat) ++ (t ++ [sg * newN a.2.1]) := by
      show crossRow a.1 a.2.1 s.1 sg = _
      unfold crossRow
      rw [e, List.take_append_of_le_length (by omega), List.drop_append_of_le_length (by omega)]
      simp
    obtain ⟨l', t', i1, i2, i3, i4⟩ := lay_tail hs (w := w) (cross_ok S hs h1) h2 e2 (by
      show _ = a.2.2 + 1
      simp; omega) (by
      rw [← List.take_append_drop s.1.toNat l] at hz
      rcases List.mem_append.mp hz with q | q
      · exact List.mem_append_left _ (List.mem_append_left _ q)
      · exact List.mem_append_right _ q) (fun x hx => by
      rcases List.mem_append.mp hx with q | q
      · exact ht x q
      · rw [List.mem_singleton.mp q]
        rcases hs with rfl | rfl <;> omega)
    exact ⟨l', t', i1, i2, by rw [i3]; simp; omega, i4⟩
/-- the whole move by names of the drawing that it made -/
theorem join_rn {a : Ast} (h : StOk a) {e : Nat} (he : e + a.1.idxOf 0 + 1 = a.1.length) : ∃ ν, Rn a.1 (rowM (lnP (joinX a.1)) e e) a.2.1 (keptM (lnP (joinX a.1)) (lnT (tfA a.2.1) (joinX a.1)) e e) ν ∧ ∀ x ∈ joinX a.1, ν x = nuM (joinX a.1) x := by
  obtain ⟨P, A, hlen, htn⟩ := join_ps h
  have hz := h.zero
  have hsp := join_split hz
  have hlt := List.idxOf_lt_length_of_mem hz
  have hX : joinX a.1 = a.1.drop (a.1.idxOf 0 + 1) ++ a.1.take (a.1.idxOf 0) := rfl
  have hperm := join_perm hz
  have R0 := nu_ren P
  have mem : ∀ x ∈ a.1, x ≠ 0 → x ∈ joinX a.1 := fun x hx h0 => by
    rcases List.mem_cons.mp (hperm.mem_iff.mp hx) with q | q
    · exact absurd q h0
    · exact q
  have ht : ∀ x ∈ joinX a.1, dget a.2.1 (iabs x) = some (tfA a.2.1 (iabs x)) := fun x hx => by
    obtain ⟨t, e, _⟩ := htn x hx
    unfold tfA
    rw [e]; rfl
  have he2 := ln_eps P (tf := tfA a.2.1) ht
  generalize hgX : joinX a.1 = X at *
  obtain ⟨ν, hν⟩ : ∃ ν : Int → Int, ∀ z, ν z = if z = 0 then 0 else nuM X z := ⟨_, fun _ => rfl⟩
  have nX : ∀ x ∈ X, ν x = nuM X x := fun x hx => by rw [hν, if_neg (P.nz x hx)]
  have n0 : ν 0 = 0 := by rw [hν, if_pos rfl]
  refine ⟨ν, ⟨?_, n0, fun x hx => ?_, fun x hx y hy e => ?_, fun x hx => ?_, fun x hx h0 => ?_⟩, nX⟩
  · have hm : lnP X = X.map ν := by rw [lnP_map]; exact (List.map_congr_left nX).symm
    have hd1 : (a.1.drop (a.1.idxOf 0 + 1)).length = e := by simp; omega
    have d1 : X.take e = a.1.drop (a.1.idxOf 0 + 1) := by rw [hX]; exact List.take_left' hd1
    have d2 : X.drop e = a.1.take (a.1.idxOf 0) := by rw [hX]; exact List.drop_left' hd1
    rw [rowM_ee, hm, ← List.map_drop, ← List.map_take, d1, d2]
    conv => rhs; rw [hsp]
    rw [List.map_append, List.map_append]
    simp [n0]
  · by_cases h0 : x = 0
    · subst h0; rw [n0]; exact n0
    · have := mem x hx h0
      rw [nX x this, nX _ (P.cl x this), R0.odd x this]
  · by_cases h0 : x = 0
    · by_cases h1 : y = 0
      · omega
      · have q := mem y hy h1
        rw [h0, n0, nX y q] at e
        exact absurd e.symm (R0.ne q)
    · have p := mem x hx h0
      by_cases h1 : y = 0
      · rw [h1, n0, nX x p] at e
        exact absurd e (R0.ne p)
      · have q := mem y hy h1
        rw [nX x p, nX y q] at e
        exact R0.inj x p y q e
  · by_cases h0 : x = 0
    · subst h0; rw [n0]
    · rw [nX x (mem x hx h0)]; exact nu_sign h0
  · have p := mem x hx h0
    rw [nX x p]
    have ek : keptM (lnP X) (lnT (tfA a.2.1) X) e e = keptM (lnP X) (lnT (tfA a.2.1) X) 0 0 := by unfold keptM; rw [lifted_ee, lifted_ee]
    rw [ek]
    exact he2 x p
/-- each stage of the move -/
theorem made_stage {sg : Int} (hs : sg = 1 ∨ sg = -1) {psM tsM : List Int} (hd : isDrw (drD psM tsM) = true) {f e' : Nat} (he' : e' ≤ psM.length) :
    ∀ (w : List Side) (a : Ast) (b : Nat), StOk a → WayOk sg a w → b + w.length = e' → (∀ x ∈ (psM.drop b).take (e' - b), 0 ≤ x * sg) →
      (∃ ν, Rn (layA sg a w).1 (rowM psM e' e') (layA sg a w).2.1 (keptM psM tsM e' e') ν) →
      backW psM tsM e' w.length b = w ∧ ∃ ν, Rn a.1 (rowM psM b e') a.2.1 (keptM psM tsM b e') ν
  | [], a, b, S, _, hb, _, ⟨ν, R⟩ => by
    have : b = e' := hb
    subst this
    exact ⟨rfl, ν, R⟩
  | s :: w, a, b, S, ⟨h1, h2⟩, hb, hsg, R => by
    have hb : b + (w.length + 1) = e' := hb
    obtain ⟨sub, _⟩ := drop_sign (by omega) he' hsg
    obtain ⟨i1, ν, i2⟩ := made_stage hs hd (f := f) he' w (crossA sg a s) (b + 1) (cross_ok S hs h1) h2 (by omega) sub R
    obtain ⟨K, c1, c2, c3⟩ := cross_crs S hs h1
    obtain ⟨g', x', K', ex, eg⟩ := lift_crs hd hs (b := b) (e := e') (by omega) he' hsg
    obtain ⟨e1, e2, e3, R'⟩ := Rn.uncross K K' i2
    refine ⟨?_, ν, R'⟩
    show ((((rowM psM (b + 1) e').idxOf (-(psM.getD b 0)) : Nat) : Int), epsM (keptM psM tsM (b + 1) e') (psM.getD b 0)) :: backW psM tsM e' w.length (b + 1) = s :: w
    rw [i1, ← ex, ← eg, e2, e3, c1]
    congr 1
    rw [← c2]
section
variable {ps ts : List Int} {sg : Int}
structure Undone (ps ts psM tsM : List Int) (b e f e' : Nat) (sg : Int) (w : List Side) : Prop where
  le : f + w.length = e'
  hi : e' ≤ psM.length
  sign : ∀ x ∈ (psM.drop f).take (e' - f), 0 ≤ x * sg
  way : WayOk sg (rowM psM f e', keptM psM tsM f e', (rowM psM f e').length) (backW ps ts e (e - b) b)
  meets : meetsM (layA sg (rowM psM f e', keptM psM tsM f e', (rowM psM f e').length) (backW ps ts e (e - b) b)).1 (layA sg (rowM psM f e', keptM psM tsM f e', (rowM psM f e').length) (backW ps ts e (e - b) b)).2.1 = true
  numP : lnP (joinX (layA sg (rowM psM f e', keptM psM tsM f e', (rowM psM f e').length) (backW ps ts e (e - b) b)).1) = ps
  numT : lnT (tfA (layA sg (rowM psM f e', keptM psM tsM f e', (rowM psM f e').length) (backW ps ts e (e - b) b)).2.1) (joinX (layA sg (rowM psM f e', keptM psM tsM f e', (rowM psM f e').length) (backW ps ts e (e - b) b)).1) = ts
  len : (layA sg (rowM psM f e', keptM psM tsM f e', (rowM psM f e').length) (backW ps ts e (e - b) b)).1.length = ps.length + 1
  idx : (layA sg (rowM psM f e', keptM psM tsM f e', (rowM psM f e').length) (backW ps ts e (e - b) b)).1.idxOf 0 = ps.length - e
  same : backW psM tsM e' w.length f = w
/-- a move undone -/
theorem undo_ok (h : CF ps ts) (hs : sg = 1 ∨ sg = -1) {b e : Nat} (hbe : b ≤ e) (hel : e ≤ ps.length) (hsg : ∀ x ∈ (ps.drop b).take (e - b), 0 ≤ x * sg) {w : List Side} (hw : WayOk sg (rowM ps b e, keptM ps ts b e, (rowM ps b e).length) w)
    {R : Ast} (hR : R = layA sg (rowM ps b e, keptM ps ts b e, (rowM ps b e).length) w) (hM : CF (lnP (joinX R.1)) (lnT (tfA R.2.1) (joinX R.1))) :
    w.length + R.1.idxOf 0 + 1 ≤ R.1.length ∧ Undone ps ts (lnP (joinX R.1)) (lnT (tfA R.2.1) (joinX R.1)) b e (R.1.length - w.length - R.1.idxOf 0 - 1) (R.1.length - R.1.idxOf 0 - 1) sg w := by
  obtain ⟨_, hl, hap, hpm⟩ := drD_parts h.dr
  have S := start_ok hap hl hpm hbe
  have SR : StOk R := by rw [hR]; exact lay_ok hs S hw
  obtain ⟨l, t, e1, hz, htl, ht⟩ := lay_tail hs (l := rowM ps b e) (t := []) S hw (by simp) rfl S.zero (fun x hx => by cases hx)
  rw [← hR] at e1
  have hidx : R.1.idxOf 0 < l.length := by rw [e1]; exact idx_app hz
  have hlen : R.1.length = l.length + w.length := by rw [e1, List.length_append, htl]; simp
  have hle : w.length + R.1.idxOf 0 + 1 ≤ R.1.length := by omega
  refine ⟨hle, ?_⟩
  obtain ⟨P, A, hjl, htn⟩ := join_ps SR
  obtain ⟨ν, Rν, hν⟩ := join_rn SR (e := R.1.length - R.1.idxOf 0 - 1) (by omega)
  generalize hpM : lnP (joinX R.1) = psM at *
  generalize htM : lnT (tfA R.2.1) (joinX R.1) = tsM at *
  have hml : psM.length = (joinX R.1).length := by rw [← hpM]; unfold lnP; rw [List.length_map]
  generalize hf : R.1.length - w.length - R.1.idxOf 0 - 1 = f at *
  generalize he' : R.1.length - R.1.idxOf 0 - 1 = e' at *
  have hfe : f + w.length = e' := by omega
  have hhi : e' ≤ psM.length := by omega
  have hsgM : ∀ x ∈ (psM.drop f).take (e' - f), 0 ≤ x * sg := fun x hx => by
    have hj : joinX R.1 = (l.drop (R.1.idxOf 0 + 1) ++ t) ++ R.1.take (R.1.idxOf 0) := by
      show R.1.drop (R.1.idxOf 0 + 1) ++ R.1.take (R.1.idxOf 0) = _
      have dr : ∀ ix, ix + 1 ≤ l.length → R.1.drop (ix + 1) = l.drop (ix + 1) ++ t := fun ix hix => by rw [e1, List.drop_append_of_le_length hix]
      rw [dr _ (by omega)]
    have hd1 : (l.drop (R.1.idxOf 0 + 1)).length = f := by simp; omega
    rw [← hpM, lnP_map, ← List.map_drop, ← List.map_take] at hx
    obtain ⟨z, hz2, rfl⟩ := List.mem_map.mp hx
    have hzt : z ∈ t := by
      rw [hj, List.append_assoc, List.drop_left' hd1, List.take_left' (by rw [htl]; simp; omega)] at hz2
      exact hz2
    have hz0 := ht z hzt
    have hzne : z ≠ 0 := fun q => by rw [q] at hz0; simp at hz0
    have := nu_sign (X := joinX R.1) hzne
    have hnz : nuM (joinX R.1) z ≠ 0 := (nu_ren P).ne (by rw [hj]; simp [hzt])
    rcases hs with rfl | rfl <;> omega
  obtain ⟨m1, ν0, m2⟩ := made_stage hs hM.dr (f := f) hhi w _ f S hw hfe hsgM ⟨ν, by rw [← hR]; exact Rν⟩
  obtain ⟨_, hlM, hapM, hpmM⟩ := drD_parts hM.dr
  have SM := start_ok hapM hlM hpmM (b := f) (e := e') (by omega)
  obtain ⟨b1, ν1, b2⟩ := back_lay h hs hel hsg (e - b) 0 (by omega) (rowM psM f e', keptM psM tsM f e', (rowM psM f e').length) ν0 SM rfl m2
  have SL := lay_ok hs SM b1
  obtain ⟨_, n2, n3, n4, n5⟩ := back_num h.dr hel SL b2
  exact ⟨hfe, hhi, hsgM, b1, back_meets h hel SL b2, n2, n3, n4, n5, m1⟩
end
end Ov

/-! D-layer: a list turned about. -/
namespace Ov
open PySem L2
section
variable {X : Cx} {c : Cc} {δ : List Sl} {a : Expr} {m1 : Mo} {ds : List D}
theorem de_revL {k : Nat} {p1 p2 p3 pos : Pos} (ha : DE X c m1 δ a (.lst ds)) (h1 : stays (nf m1) = true ∨ ds.all isAt = true) :
    DE X c .fr δ (.Subscript a (.Slice none none (some (.UnaryOp .USub (.Constant (.int 1) k p1) p2)) p3) pos) (.lst ds.reverse) :=
  DE.mkE ha.k (pe_revL ha.nf.pe) fun S σ g Q q => ⟨S, rfl, g, fun v S1 l1 g1 r1 => by
    obtain ⟨p, xs, e1, hp, q1⟩ := g1.toGoodH.lstS h1 r1
    refine ⟨p, xs, e1, SqL.of hp, fun b hb => ?_⟩
    refine q (.ref b) (S1.addO b (.lst xs.reverse)) (l1.trans (Le.addO hb)) (g1.addO hb) (.lst (g1.owNew hb) upd_same ?_)
    show ReAll c.K c.C S1.b xs.reverse ds.reverse
    exact q1.reverse⟩
end
end Ov

/-! Plain: the way as the program reads it. -/
namespace Ov
open L2
theorem idx_ne {a x : Int} (l : List Int) (h : a ≠ x) : (a :: l).idxOf x = l.idxOf x + 1 := by
  rw [List.idxOf_cons]
  have : (a == x) = false := by simpa using h
  rw [this]; rfl
theorem idx_filter (p : Int → Bool) {x : Int} (hp : p x = true) : ∀ {l : List Int}, x ∈ l → (l.filter p).idxOf x = ((l.take (l.idxOf x)).filter p).length
  | [], h => by cases h
  | a :: l, h => by
    by_cases e : a = x
    · subst e
      rw [List.idxOf_cons_self, List.take_zero, List.filter_cons, if_pos hp, List.idxOf_cons_self]
      rfl
    · have hm : x ∈ l := by
        rcases List.mem_cons.mp h with q | q
        · exact absurd q.symm e
        · exact q
      have ih := idx_filter p hp hm
      have i1 : (a :: l).idxOf x = l.idxOf x + 1 := idx_ne l e
      rw [i1, List.take_succ_cons, List.filter_cons, List.filter_cons]
      by_cases q : p a = true
      · rw [if_pos q, if_pos q, idx_ne _ e, ih, List.length_cons]
      · rw [if_neg q, if_neg q, ih]
theorem mem_take_idx {x y : Int} : ∀ {l : List Int}, y ∈ l.take (l.idxOf x) → y ≠ x
  | [], h => by simp at h
  | a :: l, h => by
    by_cases e : a = x
    · subst e; rw [List.idxOf_cons_self] at h; simp at h
    · rw [idx_ne l e, List.take_succ_cons] at h
      rcases List.mem_cons.mp h with q | q
      · exact fun z => e (q ▸ z)
      · exact mem_take_idx q
/-- the rope that was not lifted -/
def ropeM (ps : List Int) (b e : Nat) : List Int := (ps.drop e ++ [0]) ++ ps.take b
def thereM (ps : List Int) (b e i : Nat) : List Int := (ropeM ps b e).filter (fun x => decide (x ∈ rowM ps b e)) ++ ((ps.drop b).take i).map (fun x => -x)
def gapM (ps : List Int) (b e i : Nat) (one : Int) : Nat := (((ropeM ps b e).take ((ropeM ps b e).idxOf (-one))).filter fun x => decide (x ∈ thereM ps b e i)).length
section
variable {ps ts : List Int} {sg : Int}
theorem gap_ok (hd : isDrw (drD ps ts) = true) (hs : sg = 1 ∨ sg = -1) {b i e : Nat} (hb : b + i < e) (he : e ≤ ps.length) (hsg : ∀ x ∈ (ps.drop b).take (e - b), 0 ≤ x * sg) :
    gapM ps b e i (ps.getD (b + i) 0) = (rowM ps (b + i + 1) e).idxOf (-(ps.getD (b + i) 0)) ∧ -(ps.getD (b + i) 0) ∈ ropeM ps b e := by
  obtain ⟨h40, hl, hap, hpm⟩ := drD_parts hd
  obtain ⟨pm, nd⟩ := passes_pair hap hl
  have hbl : b + i < ps.length := by omega
  generalize hone : ps.getD (b + i) 0 = one
  have hg : ps[b + i] = one := by rw [← hone, List.getD_eq_getElem?_getD, List.getElem?_eq_getElem hbl]; rfl
  obtain ⟨T, hT⟩ : ∃ T, T = (ps.drop b).take i := ⟨_, rfl⟩
  obtain ⟨Z, hZ⟩ : ∃ Z, Z = (ps.drop (b + i + 1)).take (e - (b + i + 1)) := ⟨_, rfl⟩
  have dS : (ps.drop b).take (e - b) = T ++ one :: Z := by
    rw [hT, hZ, show e - b = i + ((e - (b + i + 1)) + 1) by omega, List.take_add, List.drop_drop, List.drop_eq_getElem_cons hbl, hg, List.take_succ_cons]
  have eps_ : ps = ps.take b ++ ((T ++ one :: Z) ++ ps.drop e) := by
    rw [← dS]
    conv => lhs; rw [← List.take_append_drop b ps, ← List.take_append_drop (e - b) (ps.drop b), List.drop_drop, show b + (e - b) = e by omega]
  have nd0 := nd
  rw [eps_] at nd0
  have n1 := List.nodup_append.mp nd0
  have n2 := List.nodup_append.mp n1.2.1
  have ndS := n2.1
  have n3 := List.nodup_append.mp ndS
  have n4 := List.nodup_cons.mp n3.2.1
  have inps : ∀ y ∈ T ++ one :: Z, y ∈ ps := fun y hy => by rw [← dS] at hy; exact List.mem_of_mem_drop (List.mem_of_mem_take hy)
  have sgS : ∀ y ∈ T ++ one :: Z, 0 < y * sg := fun y hy => sg_nz hs ((pm y).mp (inps y hy)).1 (hsg y (dS ▸ hy))
  have one_in : one ∈ T ++ one :: Z := by simp
  have rin : ∀ x, x ∈ ropeM ps b e ↔ x ∈ ps.drop e ∨ x = 0 ∨ x ∈ ps.take b := fun x => by
    unfold ropeM; simp [or_assoc]
  have rS : ∀ x ∈ ropeM ps b e, x ∉ T ++ one :: Z := fun x hx hxS => by
    have h0 := ((pm x).mp (inps x hxS)).1
    rcases (rin x).mp hx with q | q | q
    · exact n2.2.2 x hxS x q rfl
    · exact h0 q
    · exact n1.2.2 x q x (List.mem_append_left _ hxS) rfl
  -- numbers alike: the other pass
  have abs_iff : ∀ x ∈ ropeM ps b e, ∀ U : List Int, (∀ y ∈ U, y ∈ T ++ one :: Z) → (iabs x ∈ U.map iabs ↔ -x ∈ U) := fun x hx U hU => by
    constructor
    · intro h
      obtain ⟨y, hy, ey⟩ := List.mem_map.mp h
      have hne : y ≠ x := fun q => rS x hx (q ▸ hU y hy)
      have : -x = y := by
        unfold iabs at ey
        split at ey <;> split at ey <;> omega
      rw [this]; exact hy
    · intro h
      exact List.mem_map.mpr ⟨-x, h, iabs_neg x⟩
  have lS : liftedM ps b e = (T ++ one :: Z).map iabs := by unfold liftedM; rw [dS]
  have lZ : liftedM ps (b + i + 1) e = Z.map iabs := by unfold liftedM; rw [hZ]
  have subZ : ∀ y ∈ Z, y ∈ T ++ one :: Z := fun y hy => List.mem_append_right _ (List.mem_cons_of_mem _ hy)
  have no_in : -one ∈ ropeM ps b e := by
    have h1 := (pm one).mp (inps one one_in)
    have h2 : -one ∈ ps := (pm _).mpr ⟨by omega, by rw [iabs_neg]; exact h1.2⟩
    rw [eps_] at h2
    rcases List.mem_append.mp h2 with q | q
    · exact (rin _).mpr (.inr (.inr q))
    · rcases List.mem_append.mp q with q | q
      · have a1 := sgS _ q
        have a2 := sgS _ one_in
        rcases hs with rfl | rfl <;> omega
      · exact (rin _).mpr (.inl q)
  refine ⟨?_, no_in⟩
  have hq : (fun x => !decide (iabs x ∈ liftedM ps (b + i + 1) e)) (-one) = true := by
    have : ¬ iabs (-one) ∈ liftedM ps (b + i + 1) e := by
      rw [lZ, abs_iff _ no_in Z subZ, Int.neg_neg]; exact n4.1
    simpa using this
  have erow : rowM ps (b + i + 1) e = (ropeM ps b e).filter (fun x => !decide (iabs x ∈ liftedM ps (b + i + 1) e)) ++ ((ps.drop b).take (i + 1)).filter (fun x => !decide (iabs x ∈ liftedM ps (b + i + 1) e)) := by
    rw [← List.filter_append]
    unfold rowM ropeM
    rw [show b + i + 1 = b + (i + 1) by omega, List.take_add]
    simp only [List.append_assoc]
  rw [erow, List.idxOf_append, if_pos (List.mem_filter.mpr ⟨no_in, hq⟩), idx_filter _ hq no_in]
  unfold gapM
  congr 1
  refine List.filter_congr fun x hx => ?_
  have hxr : x ∈ ropeM ps b e := List.mem_of_mem_take hx
  have hne := mem_take_idx hx
  have e1 : (iabs x ∈ liftedM ps (b + i + 1) e) ↔ -x ∈ Z := by rw [lZ]; exact abs_iff x hxr Z subZ
  have e2 : x ∈ rowM ps b e ↔ -x ∉ T ++ one :: Z := by
    unfold rowM
    rw [List.mem_filter, lS]
    have := abs_iff x hxr (T ++ one :: Z) (fun y hy => hy)
    constructor
    · rintro ⟨_, h⟩
      have h : ¬ iabs x ∈ (T ++ one :: Z).map iabs := by simpa using h
      exact fun z => h (this.mpr z)
    · intro h
      refine ⟨hxr, ?_⟩
      have : ¬ iabs x ∈ (T ++ one :: Z).map iabs := fun z => h (this.mp z)
      simpa using this
  have e3 : x ∈ thereM ps b e i ↔ (-x ∉ T ++ one :: Z) ∨ -x ∈ T := by
    unfold thereM
    rw [List.mem_append, List.mem_filter, ← hT]
    constructor
    · rintro (⟨_, h⟩ | h)
      · exact .inl (e2.mp (of_decide_eq_true h))
      · obtain ⟨y, hy, e⟩ := List.mem_map.mp h
        exact .inr (by rw [← e, Int.neg_neg]; exact hy)
    · rintro (h | h)
      · exact .inl ⟨hxr, decide_eq_true (e2.mpr h)⟩
      · exact .inr (List.mem_map.mpr ⟨-x, h, Int.neg_neg x⟩)
  have hno : -x ≠ one := fun z => hne (by omega)
  have : x ∈ thereM ps b e i ↔ ¬ iabs x ∈ liftedM ps (b + i + 1) e := by
    rw [e1, e3]
    constructor
    · rintro (h | h) hz
      · exact h (subZ _ hz)
      · exact n3.2.2 _ h _ (List.mem_cons_of_mem _ hz) rfl
    · intro h
      by_cases q : -x ∈ T
      · exact .inr q
      · refine .inl fun z => ?_
        rcases List.mem_append.mp z with z | z
        · exact q z
        · rcases List.mem_cons.mp z with z | z
          · exact hno z
          · exact h z
  by_cases q : iabs x ∈ liftedM ps (b + i + 1) e
  · rw [decide_eq_true q, decide_eq_false (fun z => this.mp z q)]; rfl
  · rw [decide_eq_false q, decide_eq_true (this.mpr q)]; rfl
theorem gap_eps (hd : isDrw (drD ps ts) = true) (hs : sg = 1 ∨ sg = -1) {b e : Nat} (hb : b < e) (he : e ≤ ps.length) (hsg : ∀ x ∈ (ps.drop b).take (e - b), 0 ≤ x * sg) :
    epsM (keptM ps ts (b + 1) e) (ps.getD b 0) = if 0 < ps.getD b 0 then ts.getD ((iabs (ps.getD b 0)).toNat - 1) 0 else -(ts.getD ((iabs (ps.getD b 0)).toNat - 1) 0) := by
  obtain ⟨h40, hl, hap, hpm⟩ := drD_parts hd
  obtain ⟨pm, nd⟩ := passes_pair hap hl
  have hbl : b < ps.length := by omega
  have hm : ps.getD b 0 ∈ ps := getD_mem hbl
  obtain ⟨h0, h1⟩ := (pm _).mp hm
  obtain ⟨sub, sx⟩ := drop_sign hb he hsg
  have hn : iabs (ps.getD b 0) ∉ liftedM ps (b + 1) e := by
    obtain ⟨g, x, K, ex, _⟩ := lift_crs hd hs hb he hsg
    have hx : x ∈ rowM ps (b + 1) e := by rw [K.eq]; simp
    rw [← ex]
    exact (rowM_mem.mp hx).2
  have p1 := iabs_pos h0
  have e1 : dget (keptM ps ts (b + 1) e) (iabs (ps.getD b 0)) = some (ts.getD ((iabs (ps.getD b 0)).toNat - 1) 0) := by
    unfold keptM
    rw [keptP_get, if_pos ⟨p1, h1, hn⟩]
  unfold epsM
  rw [e1]
  show (if _ then -(ts.getD ((iabs (ps.getD b 0)).toNat - 1) 0) else (ts.getD ((iabs (ps.getD b 0)).toNat - 1) 0)) = _
  by_cases q : ps.getD b 0 < 0
  · rw [if_pos q, if_neg (by omega)]
  · rw [if_neg q, if_pos (by omega)]
theorem backW_get (ps ts : List Int) (e : Nat) : ∀ (n b i : Nat), i < n → (backW ps ts e n b)[i]? = some ((((rowM ps (b + i + 1) e).idxOf (-(ps.getD (b + i) 0)) : Nat) : Int), epsM (keptM ps ts (b + i + 1) e) (ps.getD (b + i) 0))
  | 0, _, _, h => absurd h (Nat.not_lt_zero _)
  | n + 1, b, 0, _ => rfl
  | n + 1, b, i + 1, h => by
    have := backW_get ps ts e n (b + 1) i (by omega)
    rw [show b + 1 + i = b + (i + 1) by omega] at this
    exact this
end
end Ov

/-! D-layer: methods of tuples made in the run; pairs that may be keys. -/
namespace L2
open PySem PySem.Spec PyProof.Rows
section
variable {X : Cx}
def rTix (K : PySem.W.Frag) : V → List V → Hp → VK → Prop := fun x xs H Q => ∃ (p : Addr) (ns : List Int) (k : Int), x = V.ref p ∧ xs = [V.int k] ∧ SqT K H p (ns.map V.int) ∧ k ∈ ns ∧ Q (.int ((ns.idxOf k : Nat) : Int)) H
theorem mt_tindex : MtR X "tuple.index" (rTix X.K) := by
  intro pns st lc Hp0 x xs v us Q J rx rxs h
  obtain ⟨p, ns, k, rfl, rfl, hs, hk, q⟩ := h
  cases rx
  cases rxs with
  | cons ry rt =>
    cases rt
    obtain ⟨t, rfl⟩ := ry
    obtain ⟨ws, rv, ht, _⟩ := J.tuple hs
    exact PySem.SeqAt.tuple_index_ints (show st.heap.IsTuple p ws.toArray from ht) rv.ints hk ⟨.int _, Hp0, J.tok _, ⟨_, rfl⟩, q⟩
def rCntT (K : PySem.W.Frag) : V → List V → Hp → VK → Prop := fun x xs H Q => ∃ (a : Addr) (y : V) (d : PyData) (ds : List PyData), x = V.ref a ∧ xs = [y] ∧ Dp K H (V.ref a) (.tuple ds) ∧ Dp K H y d ∧
  SeqAt.shaped (.tuple ds) = true ∧ SeqAt.shaped d = true ∧ Q (.int ((ds.countP fun z => PyData.eqv z d : Nat) : Int)) H
theorem shp_plain {ds : List PyData} (h : SeqAt.shaped (.tuple ds) = true) : PyData.plainAll ds = true := PyData.plainAll_of_canLay0 _ (SeqAt.canLay_of_shaped h)
theorem mt_tcount (hu : X.A.units + 65 < cLine) : MtR X "tuple.count" (rCntT X.K) := by
  intro pns st lc Hp0 x xs v us Q J rx rxs h
  obtain ⟨a, y, d, ds, rfl, rfl, hl, hy, sl, sd, q⟩ := h
  obtain ⟨uy, rfl, ry⟩ := rxs.one
  obtain ⟨bs, r1⟩ := Dp.reads J d y uy hy ry
  obtain ⟨cs, r2⟩ := Dp.reads J (.tuple ds) (.ref a) v hl rx
  cases rx
  cases r2 with
  | tuple h1 h2 h3 h4 =>
    exact SeqAt.count_tuple_data ⟨_, h1, h2, _, h3⟩ h4 r1 (shp_plain sl) (PyData.plain_of_canLay0 _ (SeqAt.canLay_of_shaped sd)) (room_in_shaped sd hu) ⟨.int _, Hp0, J.tok _, ⟨st.toks, rfl⟩, q⟩
end
end L2
namespace Ov
open PySem L2 PySem.Spec PyProof.Rows
section
variable {X : Cx} {c : Cc} {δ : List Sl} {a b e x : Expr} {m m1 m2 : Mo} {p pos : Pos} {i j : Int} {ns : List Int} {d : D} {ds : List D}
theorem de_tindex {apos : Pos} (ha : DE X c m1 δ a (.tup (ns.map D.int))) (hx : DE X c m2 δ x (.int i)) (hi : i ∈ ns) (hst : starEach [x] X.env = (false, eval x X.env) :: starEach [] X.env := by rfl)
    (hbase : attributeBase a "index" X.env (eval a X.env) = eval a X.env := by rfl)
    (hfew : ((backTo p (starEach [x] X.env)).all (fun x => !x.1) && (backToKw p (keywordEach [] X.env)).all (fun x => x.1.isSome)
      && decide (([x] : List Expr).length + ([] : List Keyword).length + (if ([] : List Keyword).isEmpty then 0 else 1) < 30)) = true := by rfl)
    (hline : (apos.endLine == p.line) = true := by rfl) (hplain : (backTo p (starEach [] X.env)).any (·.1) = false := by rfl) :
    DE X c .val δ (.Call (.Attribute a "index" apos) [x] [] p) (.int ((ns.idxOf i : Nat) : Int)) :=
  DE.mkE ha.k (pe_tm PySem.F.slot_tuple_index PySem.F.type_tuple_index mt_tindex ha.nf.pe (pa_cons hx.nf.pe pa_nil hst) hbase hfew hline hst hplain) fun S σ g Q q => ⟨S, rfl, g, fun v S1 l1 g1 r1 => by
    obtain ⟨p, rfl, hp⟩ := g1.toGoodH.tupI r1
    exact ⟨⟨p, _, rfl, hp⟩, S1, rfl, g1, fun u S2 l2 g2 r2 => ⟨p, ns, i, rfl, by rw [r2.intI], (hp.mono l2.h).sq, hi, q _ S2 (l1.trans l2) g2 (.int _)⟩⟩⟩
theorem pydAll_m : ∀ ds : List D, pydAll ds = ds.map pyd
  | [] => rfl
  | d :: ds => by rw [pydAll, pydAll_m ds]; rfl
theorem cnt_pyd (d : D) (ds : List D) : ((pydAll ds).countP fun z => PyData.eqv z (pyd d)) = cntD d ds := by
  rw [pydAll_m, List.countP_map]; rfl
theorem de_tcount {apos : Pos} (hu : X.A.units + 65 < cLine) (ha : DE X c m1 δ a (.tup ds)) (hx : DE X c m2 δ x d) (h1 : fl 8 d = true) (h2 : fl 8 (.tup ds) = true) (hst : starEach [x] X.env = (false, eval x X.env) :: starEach [] X.env := by rfl)
    (hbase : attributeBase a "count" X.env (eval a X.env) = eval a X.env := by rfl)
    (hfew : ((backTo p (starEach [x] X.env)).all (fun x => !x.1) && (backToKw p (keywordEach [] X.env)).all (fun x => x.1.isSome)
      && decide (([x] : List Expr).length + ([] : List Keyword).length + (if ([] : List Keyword).isEmpty then 0 else 1) < 30)) = true := by rfl)
    (hline : (apos.endLine == p.line) = true := by rfl) (hplain : (backTo p (starEach [] X.env)).any (·.1) = false := by rfl) :
    DE X c .val δ (.Call (.Attribute a "count" apos) [x] [] p) (.int ((cntD d ds : Nat) : Int)) :=
  DE.mkE ha.k (pe_tm PySem.F.slot_tuple_count PySem.F.type_tuple_count (mt_tcount hu) ha.nf.pe (pa_cons hx.nf.pe pa_nil hst) hbase hfew hline hst hplain) fun S σ g Q q => ⟨S, rfl, g, fun v S1 l1 g1 r1 => by
    obtain ⟨p, xs, rfl, hp, _, _⟩ := g1.toGoodH.tup r1
    refine ⟨⟨p, _, rfl, hp⟩, S1, rfl, g1, fun u S2 l2 g2 r2 => ?_⟩
    refine ⟨p, u, pyd d, pydAll ds, rfl, rfl, ha.k ▸ Re.dp' 8 (.tup ds) (.ref p) h2 (Good.now g2.toGoodH (ReM.le l2 r1)), ha.k ▸ Re.dp' 8 d u h1 (Good.now g2.toGoodH r2), fl_shaped (d := .tup ds) (by decide) h2, fl_shaped (by decide) h1, ?_⟩
    rw [cnt_pyd]
    exact q _ S2 (l1.trans l2) g2 (.int _)⟩
/-- (a, b), a key -/
theorem de_pk {n : Nat} (ha : DE X c m1 δ a (.int i)) (hb : DE X c m2 δ b (.int j)) (h1 : canVal m1 (.int i) = true := by rfl) (h2 : canVal m2 (.int j) = true := by rfl)
    (e1 : starEach [a, b] X.env = (false, eval a X.env) :: starEach [b] X.env := by rfl) (e2 : starEach [b] X.env = (false, eval b X.env) :: starEach [] X.env := by rfl) : DE X c .val δ (.Tuple [a, b] n pos) (.pk i j) :=
  de_pkD (da_cons (m := .val) (ha.val h1) (da_cons (m := .val) (hb.val h2) (da_nil ha.k) e2) e1)
theorem GoodH.pkI {S : G} {v : V} (g : GoodH c S) (r : ReM c S m v (.pk i j)) : ∃ q, v = .ref q ∧ S.h q = some (.tup [V.int i, V.int j]) := by
  have z := Good.now g r
  cases z with | pk h => exact ⟨_, rfl, h⟩
theorem ix_pk {k n : Int} (h : atI [i, j] k = some n) : Ix X c m1 (.pk i j) m2 (.int k) .val (.int n) :=
  ⟨_, ix_tup, fun δ S σ x y g r1 r2 Q q => by
    obtain ⟨p, e, hp⟩ := g.toGoodH.pkI r1
    exact ⟨p, [V.int i, V.int j], k, .int n, e, r2.intI, SqT.of hp, atI_mapV (ns := [i, j]) h, q _ S (Le.refl c S) g (.int _)⟩⟩
end
end Ov

/-! D-layer: tuples turned about, tuples many times. -/
namespace L2
open PySem PySem.Spec PyProof.Rows HT
section
variable {prog : Program} {w : World} {A : Around} {E : Value → Shared → Prop} {s : Shared}
theorem bk_slice {sl : Addr} {vl vu vs : Value} {n : Nat} {Q : Int × Int × Nat → Shared → Prop} (hs : s.heap.IsSliceOf sl vl vu vs) (pl : IsPart vl none) (pu : IsPart vu none) (ps : IsPart vs (some (-1)))
    (h : Q ((n : Int) - 1, -1, n) s) : wpAny (model prog w) A (Builtin.Slice.sliceApplied (.ref sl) (pure (n : Int))) Q E s := by
  obtain ⟨os, hos, hcs, hds⟩ := id hs
  unfold Builtin.Slice.sliceApplied Builtin.Slice.sliceFields
  refine wpAny_bind (wpAny_bind (wpAny_field hos hds (x := vl) rfl (wpAny_bind (wpAny_field hos hds (x := vu) rfl (wpAny_bind (wpAny_field hos hds (x := vs) rfl (wpAny_pure ?_)))))))
  refine wpAny_bind (slicePart_ ps ?_)
  show wpAny _ _ (if ((-1 : Int) == 0) = true then _ else _) _ _ s
  rw [if_neg (by decide)]
  refine wpAny_bind (slicePart_ pl (wpAny_bind (slicePart_ pu (wpAny_bind (wpAny_pure ?_)))))
  show wpAny _ _ (pure ((n : Int) - 1, (-1 : Int), Builtin.Slice.slicePlaces ((n : Int) - 1) (-1) (-1))) _ _ s
  have e : Builtin.Slice.slicePlaces ((n : Int) - 1) (-1) (-1) = n := by
    unfold Builtin.Slice.slicePlaces
    have h1 : ¬ ((-1 : Int) > 0) := by decide
    simp only [h1, if_false]
    split
    · rw [show (- -1 : Int) = 1 by decide, Int.ediv_one]; omega
    · omega
  rw [e]
  exact wpAny_pure h
theorem fm_congr {α β : Type} {f g : α → Option β} : ∀ {l : List α}, (∀ x ∈ l, f x = g x) → l.filterMap f = l.filterMap g
  | [], _ => rfl
  | a :: l, h => by rw [List.filterMap_cons, List.filterMap_cons, h a List.mem_cons_self, fm_congr fun x hx => h x (List.mem_cons_of_mem _ hx)]
theorem bk_pick (xs : Array Value) : ((List.range xs.size).filterMap fun (m : Nat) => xs[((xs.size : Int) - 1 + (m : Int) * -1).toNat]?).toArray = xs.toList.reverse.toArray := by
  have e : ((List.range xs.size).filterMap fun (m : Nat) => xs[((xs.size : Int) - 1 + (m : Int) * -1).toNat]?) = ((List.range xs.size).map fun m => xs.size - 1 - m).filterMap fun i => xs[i]? := by
    rw [List.filterMap_map]
    refine fm_congr fun m hm => ?_
    have := List.mem_range.mp hm
    have e2 : ((xs.size : Int) - 1 + (m : Int) * -1).toNat = xs.size - 1 - m := by omega
    show xs[((xs.size : Int) - 1 + (m : Int) * -1).toNat]? = xs[xs.size - 1 - m]?
    rw [e2]
  rw [e, PySem.W.krv_range, List.filterMap_reverse, PySem.W.krv_all]
theorem bk_item {t sl : Addr} {items : Array Value} {vl vu vs : Value} {Q : Value → Shared → Prop} (ht : IsTup s.heap t items) (hs : s.heap.IsSliceOf sl vl vu vs) (pl : IsPart vl none) (pu : IsPart vu none) (ps : IsPart vs (some (-1)))
    (h : Q (.ref s.heap.objs.size) { s with heap := s.heap.push { cls := .type "tuple", data := .seq items.toList.reverse.toArray } })
    (hsz : items.size ≤ sizeLine) : wpAny (model prog w) A (getItem (.ref t) (.ref sl)) Q E s := by
  have htake : sizeOk (.seq items.toList.reverse.toArray) := by
    show items.toList.reverse.toArray.size ≤ sizeLine
    rw [List.size_toArray, List.length_reverse, Array.length_toList]
    exact hsz
  obtain ⟨os, hos, hcs, hds⟩ := id hs
  have hTs : s.TypeIs (.ref sl) "slice" := ⟨os, hos, hcs⟩
  unfold getItem
  try with_reducible refine wpAny_holding ?_
  first | refine wpAny_bind (wpAny_pure ?_) | skip
  refine wpAny_bind (wpAny_sequenceKey ht.typeIs (by decide) ?_)
  refine wpAny_bind (wpAny_callSpecial?_slot (name := Str.ofString "__getitem__") ht.typeIs PyProof.Rows.slot_tuple_getitem
    (wpAny_call_entry PyProof.Rows.slot_tuple_getitem ht.typeIs entry_tuple_getitem ?_ (args_tuple_getitem _ _)))
  show wpAny _ _ (Builtin.Tuple.tupleItemsOf (.ref t) >>= _) _ _ s
  refine wpAny_bind (tupleItemsOf_ ht ?_)
  refine wpAny_bind (wpAny_typeOf hTs ?_)
  rw [if_pos (by decide)]
  refine wpAny_bind (bk_slice hs pl pu ps ?_)
  show wpAny _ _ (if ((((items.size : Int) - 1) == 0 && (-1 : Int) == 1 && items.size == items.size) = true) then _ else _) _ _ s
  rw [if_neg (by rw [show ((-1 : Int) == 1) = false from rfl, Bool.and_false, Bool.false_and]; decide), bk_pick]
  first
    | exact wpAny_bind (m := Builtin.Tuple.tupleExact _) (wpAny_newObj_type (wpAny_pure ⟨_, rfl, wpAny_pure h⟩) htake)
    | exact wpAny_bind (m := Builtin.Tuple.tupleExact _) (wpAny_newObj_type (wpAny_bind (wpAny_pure (wpAny_pure ⟨_, rfl, wpAny_pure h⟩))) htake)
    | exact wpAny_bind (wpAny_bind (m := Builtin.Tuple.tupleExact _) (wpAny_newObj_type (wpAny_pure (wpAny_pure ⟨_, rfl, wpAny_pure h⟩)) htake))
    | exact wpAny_bind (wpAny_bind (m := Builtin.Tuple.tupleExact _) (wpAny_newObj_type (wpAny_pure ⟨_, rfl, wpAny_pure h⟩) htake))
end
section
variable {X : Cx}
def tBackF (K : PySem.W.Frag) (te : TE) : TE := fun σ H Q => te σ H fun x H1 => ∃ a xs, x = .ref a ∧ SqT K H1 a xs ∧ ∀ p ob, H1 p = none → ob.dict = none → Q (.ref p) (upd H1 p (.frz ob (.tup xs.reverse)))
theorem pe_backF {e : Expr} {te : TE} {k : Nat} {p1 p2 p3 pos : Pos} (he : PE X e te) : PE X (.Subscript e (.Slice none none (some (.UnaryOp .USub (.Constant (.int 1) k p1) p2)) p3) pos) (tBackF X.K te) := by
  refine ⟨fun pns st lc Hp0 Q J h => ?_⟩
  refine Subscript_ (thn (he.run pns st lc Hp0 _ J h) fun v s1 ⟨x, H1, I1, r1, q1⟩ => ?_)
  obtain ⟨a, xs, ex, hx, q⟩ := q1
  subst ex
  cases r1
  have hm1 : PO X (some (.UnaryOp .USub (.Constant (.int 1) k p1) p2)) (tPart (tUn (rU fun i => .int (-i)) (tC (.int 1)))) := po_some (pe_un un_neg pe_int)
  refine wpAny_Slice (thn (po_none.run pns s1 lc H1 (fun o H2 => o = none ∧ H2 = H1) I1 ⟨rfl, rfl⟩) fun vl s2 ⟨l, H2, I2, pl, el, e2⟩ => ?_)
  subst el e2
  refine thn (po_none.run pns s2 lc H2 (fun o H3 => o = none ∧ H3 = H2) I2 ⟨rfl, rfl⟩) fun vu s3 ⟨u, H3, I3, pu, eu, e3⟩ => ?_
  subst eu e3
  refine thn (hm1.run pns s3 lc H3 (fun o H4 => o = some (-1) ∧ H4 = H3) I3 ⟨1, rfl, -1, rfl, rfl, rfl⟩) fun vs s4 ⟨o, H4, I4, ps, eo, e4⟩ => ?_
  subst eo e4
  have I5 : Inv X pns lc H4 { s4 with heap := s4.heap.push { cls := .type "slice", data := .fields #[vl, vu, vs] } } := I4.kept (t' := s4.toks) fun b ob q => Heap.get?_push_of_some _ q
  obtain ⟨us, rv, ht, hz⟩ := I5.tuple hx
  have hul := rv.length
  show wpAny (model X.prog X.w) X.A (subscriptTail e (.Slice none none (some (.UnaryOp .USub (.Constant (.int 1) k p1) p2)) p3) (.ref a) (.ref s4.heap.objs.size)) (EP X pns lc Q) X.xe { s4 with heap := s4.heap.push { cls := .type "slice", data := .fields #[vl, vu, vs] } }
  refine tail_any (ops := [.ref a, .ref s4.heap.objs.size]) ht.typeIs (PyProof.Rows.slot_tuple_getitem.lookup) ?_ (by with_unfolding_all rfl)
  refine bk_item ht (Heap.IsSliceOf.new _ vl vu vs) pl pu ps ?_ (by rw [List.size_toArray]; omega)
  obtain ⟨I6, hf⟩ := I5.layT (h' := s4.heap.push { cls := .type "slice", data := .fields #[vl, vu, vs] }) (fun _ _ q => q) rv.reverse (by rw [List.length_reverse]; exact hz)
  exact ⟨.ref _, _, I6, rfl, q _ _ hf rfl⟩
def rRepF (K : PySem.W.Frag) : R2 := fun x y H Q => ∃ l k xs, x = .ref l ∧ y = .int k ∧ SqT K H l xs ∧ xs ≠ [] ∧ 2 ≤ k ∧ k ≤ 1000 ∧ xs.length ≤ 1000 ∧ ∀ p ob, H p = none → ob.dict = none → Q (.ref p) (upd H p (.frz ob (.tup (List.replicate k.toNat xs).flatten)))
theorem op_repF : OpR X (binaryOp .Mult) (rRepF X.K) := by
  intro pns st lc Hp0 x y v u Q J rx ry h
  obtain ⟨l, k, xs, rfl, rfl, hT, hne, h1, h2, hz, q⟩ := h
  cases rx
  obtain ⟨t, rfl⟩ := ry
  obtain ⟨us, rv, ⟨⟨cl, dd, da, sl⟩, ho, hc, n, hd⟩, _⟩ := J.tuple hT
  simp only at hc hd
  subst hc hd
  have hul : us.length = xs.length := rv.length.symm
  have hpos : 0 < us.length := by
    cases xs with
    | nil => exact absurd rfl hne
    | cons a b => rw [hul]; exact Nat.succ_pos _
  have hemp : us.toArray.isEmpty = false := by
    cases us with
    | nil => exact absurd hpos (Nat.lt_irrefl _)
    | cons a b => rfl
  have hsz : us.toArray.size = xs.length := by rw [List.size_toArray, hul]
  have hmul : ((us.toArray.size : Nat) : Int) * k ≤ 1000000 := by
    rw [hsz]
    have : ((xs.length : Nat) : Int) * k ≤ 1000 * k := Int.mul_le_mul_of_nonneg_right (by omega) (by omega)
    omega
  have hnat : k.toNat * xs.length ≤ 1000 * 1000 := Nat.mul_le_mul (by omega) hz
  have big : (List.replicate k.toNat us).flatten.length ≤ sizeLine := by
    rw [PyProof.Rows.lm_len_rep_flat, hul, sizeLine_eq]
    omega
  have d0 : (decide (k < -(2 ^ 63)) || decide (k ≥ 2 ^ 63)) = false := by
    rw [decide_eq_false (by omega), decide_eq_false (by omega)] <;> rfl
  have d1 : (us.toArray.isEmpty || k == 1) = false := by
    rw [hemp, Bool.false_or]
    exact beq_eq_false_iff_ne.mpr (by omega)
  have d2 : (decide (k ≤ 0) || us.toArray.isEmpty) = false := by
    rw [hemp, Bool.or_false]
    exact decide_eq_false (by omega)
  have d3 : Builtin.Tuple.tupleTooMany (((us.toArray.size : Nat) : Int) * k) = false := by
    unfold Builtin.Tuple.tupleTooMany
    rw [sizeLine_eq]
    exact decide_eq_false (by omega)
  refine wpAny_binaryOp_repeat_ref (T := "tuple") (U := "int") (by decide) ⟨_, ho, rfl⟩ (fun s' => typeIs_int s' k t) noFill_tuple_mul PySem.F.fills_int_mul PySem.F.slot_int_rmul repeat_tuple PySem.F.slot_int_index.lookup
    (call_meets PySem.F.slot_int_rmul (typeIs_int st k t) PySem.F.entry_int_rmul (PySem.F.args_int_rmul_2 _ _) (int_rmul_tuple k t l us.toArray n dd sl)
      ⟨ho, rfl, ⟨_, ho, rfl⟩, call_meets PySem.F.slot_tuple_mul ⟨_, ho, rfl⟩ PySem.F.entry_tuple_mul (PySem.F.args_tuple_mul_2 _ _) (tuple_mulW l us.toArray n dd sl k t d0 d1 d2 (by omega) d3 (by rw [size_rep, List.size_toArray]; exact big)) ⟨ho, ?_⟩⟩)
  rw [size_rep]
  obtain ⟨I2, hf⟩ := J.layT (h' := st.heap) (fun _ _ q => q) (rv.rep k.toNat) (by rw [PyProof.Rows.lm_len_rep_flat, sizeLine_eq]; omega)
  exact ⟨.ref st.heap.objs.size, _, I2, rfl, q _ _ hf rfl⟩
end
end L2
namespace Ov
open PySem L2 PySem.Spec PyProof.Rows
section
variable {X : Cx} {c : Cc} {δ : List Sl} {e a x : Expr} {p pos : Pos} {m m1 m2 : Mo} {d : D} {ds : List D}
theorem de_backT {k : Nat} {p1 p2 p3 : Pos} (ha : DE X c .val δ e (.tup ds)) : DE X c .val δ (.Subscript e (.Slice none none (some (.UnaryOp .USub (.Constant (.int 1) k p1) p2)) p3) pos) (.tup ds.reverse) :=
  DE.mkE ha.k (pe_backF ha.nf.pe) fun S σ g Q q => ⟨S, rfl, g, fun v S1 l1 g1 r1 => by
    obtain ⟨p, xs, e1, hp, q1⟩ := Re.tupI r1
    exact ⟨p, xs, e1, (hp.mono g1.exb).sq, fun a ob ha hd => q (.ref a) (S1.add a (.frz ob (.tup xs.reverse))) (l1.trans (Le.add g1.exb ha)) (g1.add ha) (.tup ⟨ob, upd_same, hd⟩ (ReAll.mono (Ex.new (g1.exb.none ha)) q1.reverse))⟩⟩
theorem ReAll.rep {K : PySem.W.Frag} {C : Addr} {H : Hp} {xs : List V} {ds : List D} (r : ReAll K C H xs ds) : ∀ n, ReAll K C H (List.replicate n xs).flatten (List.replicate n ds).flatten
  | 0 => .nil
  | n + 1 => by
    rw [List.replicate_succ, List.replicate_succ, List.flatten_cons, List.flatten_cons]
    exact r.append (ReAll.rep r n)
theorem o_repT {n : Nat} (h0 : ds ≠ []) (hn : 2 ≤ n ∧ n ≤ 1000) (hl : ds.length ≤ 1000) : Op2 X c (binaryOp .Mult) .val (.tup ds) m2 (.int (n : Nat)) .val (.tup (List.replicate n ds).flatten) :=
  ⟨_, op_repF, fun δ S σ x y g r1 r2 Q q => by
    obtain ⟨p, xs, e1, hp, q1⟩ := Re.tupI r1
    refine ⟨p, (n : Int), xs, e1, r2.intI, (hp.mono g.exb).sq, fun z => ?_, by omega, by omega, by rw [q1.length]; exact hl, fun a ob ha hd => ?_⟩
    · subst z
      cases q1
      exact h0 rfl
    · rw [Int.toNat_natCast]
      exact q (.ref a) (S.add a _) (Le.add g.exb ha) (g.add ha) (.tup ⟨ob, upd_same, hd⟩ (ReAll.mono (Ex.new (g.exb.none ha)) (q1.rep n)))⟩
theorem deq_lst (a b : List Int) : deq (.lst (a.map .int)) (.lst (b.map .int)) = decide (a = b) := by
  show PyData.eqv (.list (pydAll (a.map .int))) (.list (pydAll (b.map .int))) = _
  have key : ∀ a b : List Int, PyData.eqvAll (pydAll (a.map .int)) (pydAll (b.map .int)) = decide (a = b) := by
    intro a
    induction a with
    | nil => intro b; cases b <;> simp [pydAll, PyData.eqvAll]
    | cons x a ih =>
      intro b
      cases b with
      | nil => simp [pydAll, PyData.eqvAll]
      | cons y b =>
        have h := deq_int x y
        unfold deq at h
        simp only [List.map_cons, pydAll, PyData.eqvAll]
        rw [ih b, h]
        by_cases h1 : x = y <;> by_cases h2 : a = b <;> simp [h1, h2]
  rw [← key a b]
  simp only [PyData.eqv]
end
end Ov

/-! D-layer: enumerate of a tuple, in a comprehension. -/
namespace PySem
open AutoSeq1 (wpAny_loadPart')
theorem meets_enumT (l : Addr) (items : Array Value) (n : Nat) (dct : Option Addr) (sl : Array (Option Value)) :
    Meets (Builtin.«enumerate.__new__» ⟨[.type "enumerate", .ref l], []⟩) (fun _ R s => s.heap.get? l = some { cls := .type "tuple", dict := dct, data := .seq items n, slots := sl } ∧
      R (.ok (.ret (.ref (s.heap.push { cls := .type "tuple_iterator", data := .fields #[.ref l, .int 0 0] }).objs.size)))
        { s with heap := (s.heap.push { cls := .type "tuple_iterator", data := .fields #[.ref l, .int 0 0] }).push { cls := .type "enumerate", data := .fields #[.none, .bool false, .ref s.heap.objs.size, rawInt 0, .none, .none] } }) :=
  .of_wp fun prog w A R st h => by
    obtain ⟨hp, gn, dr, tk, os⟩ := st; obtain ⟨hl, h⟩ := h
    have hsub := sub_enumerate
    have hT : Heap.IsTuple (Shared.heap ⟨hp, gn, dr, tk, os⟩) l items := ⟨_, hl, rfl, n, rfl⟩
    wp_walk using wpAny_loadPart' hl
    refine wpAny_stack_any fun st => wpAny_pure ?_
    split
    · rename_i c _ _ _ _ _
      cases (c == Value.type "enumerate")
      · wp_walk using wpAny_loadPart' hl, wpAny_pyIter_tuple hT
        exact ⟨_, rfl, h⟩
      · wp_walk using wpAny_loadPart' hl, wpAny_pyIter_tuple hT
        exact ⟨_, rfl, h⟩
    · wp_walk using wpAny_loadPart' hl, wpAny_pyIter_tuple hT
      exact ⟨_, rfl, h⟩
section
variable {prog : Program} {w : World} {A : Around} {E : Value → Shared → Prop} {s : Shared}
theorem call_enumT {l : Addr} {items : Array Value} {Q : Value → Shared → Prop} (hT : s.heap.IsTuple l items)
    (h : ∀ h', IsEnum h' (s.heap.objs.size + 1) s.heap.objs.size 0 .none → h'.IsTupleIter s.heap.objs.size l 0 → h'.objs.size = s.heap.objs.size + 2 →
      (∀ b o, s.heap.get? b = some o → h'.get? b = some o) → Q (.ref (s.heap.objs.size + 1)) { s with heap := h' }) :
    wpAny (model prog w) A (call (.type "enumerate") [.ref l]) Q E s := by
  obtain ⟨⟨c, dct, dt, sl⟩, hl, hc, n, hd⟩ := hT
  replace hc : c = .type "tuple" := hc
  replace hd : dt = .seq items n := hd
  subst hc hd
  refine callType_new F.called_enumerate (by decide) (F.typeCall_enumerate_1 _) (F.newCall_enumerate_1 _) (fun obj => F.args_object_init_2 obj _) F.entry_enumerate_new
    (meets_enumT l items n dct sl) ⟨hl, ?_⟩
  have sz1 : (s.heap.push { cls := .type "tuple_iterator", data := .fields #[.ref l, .int 0 0] }).objs.size = s.heap.objs.size + 1 := Heap.size_push ..
  show _ ∧ _
  rw [sz1]
  have en : IsEnum ((s.heap.push { cls := .type "tuple_iterator", data := .fields #[.ref l, .int 0 0] }).push
      { cls := .type "enumerate", data := .fields #[.none, .bool false, .ref s.heap.objs.size, rawInt 0, .none, .none] }) (s.heap.objs.size + 1) s.heap.objs.size 0 .none := by
    have := Heap.get?_push_size (s.heap.push { cls := .type "tuple_iterator", data := .fields #[.ref l, .int 0 0] })
      (o := { cls := .type "enumerate", data := .fields #[.none, .bool false, .ref s.heap.objs.size, rawInt 0, .none, .none] }) rfl
    rw [sz1] at this; exact this
  exact ⟨⟨_, en, rfl⟩, h _ en ⟨_, Heap.get?_push_of_some _ (Heap.get?_push_size _ rfl), rfl, rfl⟩ (by rw [Heap.size_push, sz1]) fun b o x => Heap.get?_push_of_some _ (Heap.get?_push_of_some _ x)⟩
end
end PySem
namespace L2
open PySem PySem.Spec PyProof.Rows
/-- a tuple's items by turns, each in a new pair without a dict -/
def IteT (K : PySem.W.Frag) (a : Addr) : It :=
  ⟨fun i H => ∃ (xs : List V) (x : V), SqT K H a xs ∧ xs[i]? = some x, fun i H v H' => ∃ N ob x, v = .ref N ∧ H N = none ∧ ob.dict = none ∧ H' = upd H N (.frz ob (.tup [.int (i : Nat), x])) ∧ ∀ xs, SqT K H a xs → xs[i]? = some x, fun i H => ∃ xs : List V, SqT K H a xs ∧ xs.length = i⟩
theorem turn_enumT {P : Program} {w : World} {K : PySem.W.Frag} {elts : List Expr} {kk : Nat} {tpos : Pos} (a e it : Addr) (hai : a ≠ it) :
    Turn P w K (.Tuple elts kk tpos) (IteT K a) [e, it] e (fun i h => (∃ old, IsEnum h e it ((i : Nat) : Int) old) ∧ h.IsTupleIter it a i ∧ e ≠ it) where
  mem := by simp
  obj := fun i h st b hb => by
    obtain ⟨⟨old, he⟩, ⟨o, ho, hc, hd⟩, _⟩ := st
    have eb : b = e ∨ b = it := by simpa using hb
    rcases eb with rfl | rfl
    · exact ⟨_, he, fun v q => nomatch q⟩
    · exact ⟨o, ho, fun v q => by rw [hd] at q; cases q⟩
  keep := fun i h h' st k => by
    obtain ⟨⟨old, he⟩, hi, hne⟩ := st
    exact ⟨⟨old, k e (by simp) _ he⟩, hi.at fun o q => k it (by simp) o q, hne⟩
  item := by
    intro X hP hw hK hc i pns st lc Hp0 E J hf tn hg
    subst hP hw hK
    obtain ⟨⟨old, he⟩, hit, hne⟩ := tn
    obtain ⟨xs, x, hq, hx⟩ := hg
    obtain ⟨us, rv, ht, hz⟩ := J.tuple hq
    obtain ⟨u, hu, ru⟩ := rv.get hx
    have hel : e < st.heap.objs.size := Heap.lt_size he
    have hil : it < st.heap.objs.size := by obtain ⟨_, q, _⟩ := hit; exact Heap.lt_size q
    have hlt : i < us.toArray.size := by
      have := (List.getElem?_eq_some_iff.mp hu).1
      rw [List.size_toArray]; exact this
    have hh : X.A.handled = none := J.ok.hd hc
    -- the pair's place is apart from the tuple
    have hta : a < st.heap.objs.size := ht.lt
    refine wpAny_pyNext_enum_itemD (Draws.tuple (A := X.A.in1) hh it a hai us.toArray) he ⟨hit, (show st.heap.IsTuple a us.toArray from ht)⟩ hlt hne (by
      intro z
      rcases List.mem_cons.mp z with z | z
      · exact hne z
      · have z : e = a := by simpa using z
        subst z
        obtain ⟨ob, h1, h2, _⟩ := ht
        rw [he] at h1
        cases h1
        injection h2 with h3
        exact absurd h3 (by decide)) fun y h' tk hy ho st' hN hsz hk => ?_
    have ey : y = u := by
      have h1 : us.toArray[i]? = some y := hy
      have h2 : us.toArray[i]? = some u := by simpa using hu
      rw [h1] at h2
      exact Option.some.inj h2
    subst ey
    refine ⟨_, rfl, wpAny_letOwnedTupleGo_enum (s := { st with heap := h', toks := tk + 1 }) ho fun h'' he' sb => ?_⟩
    have hN2 : h''.get? st.heap.objs.size = some { cls := .type "tuple", data := .seq #[.int i tk, y] } := (sb.2 _ (Nat.ne_of_gt hel)).trans hN
    have new : ObjOk X.prog X.w (upd Hp0 st.heap.objs.size (.frz { cls := .type "tuple", data := .seq #[.int i tk, y] } (.tup [.int (i : Nat), x]))) h'' st.heap.objs.size (.frz { cls := .type "tuple", data := .seq #[.int i tk, y] } (.tup [.int (i : Nat), x])) :=
      ⟨hN2, by show 2 ≤ sizeLine; decide, [.int i tk, y], .cons ⟨_, rfl⟩ (.cons ru .nil), ⟨_, hN2, rfl, _, rfl⟩⟩
    have J1 := J.turnedNew (t' := tk + 1) (ch := [e, it]) (h' := h'') (T := st.heap.objs.size) (fun b ob hb q => (sb.2 b (fun z => hb (by simp [z]))).trans (hk b ob (fun z => hb (by simp [z])) (fun z => hb (by simp [z])) q)) hf (Nat.le_refl _) new
    refine ⟨.ref st.heap.objs.size, _, J1, rfl, ⟨_, _, x, rfl, J.hok.fresh (Nat.le_refl _), rfl, rfl, fun ys hy2 => by rw [J.tuple_inj hy2 hq]; exact hx⟩, ⟨⟨y, ?_⟩, st'.1.at fun o q => (sb.2 it (Ne.symm hne)).trans q, hne⟩, fun b hb => ?_⟩
    · have e1 : ((i + 1 : Nat) : Int) = (i : Int) + 1 := by omega
      rw [e1]; exact he'
    · have eb : b = e ∨ b = it := by simpa using hb
      have hb' : b < st.heap.objs.size := by rcases eb with rfl | rfl <;> assumption
      rw [upd_ne (Nat.ne_of_lt hb')]
      exact (hf b hb).1
  done := by
    intro X hP hw hK hc i pns st lc Hp0 E J hf tn hg
    subst hP hw hK
    obtain ⟨⟨old, he⟩, hit, hne⟩ := tn
    obtain ⟨xs, hq, hx⟩ := hg
    obtain ⟨us, rv, ht, hz⟩ := J.tuple hq
    have hh : X.A.handled = none := J.ok.hd hc
    have hsz : us.toArray.size = i := by rw [List.size_toArray, ← rv.length]; exact hx
    obtain ⟨f0, f1, f2, f3, f4, f5⟩ := hf it (by simp)
    exact wpAny_pyNext_enum_endD (Draws.tuple (A := X.A.in1) hh it a hai us.toArray) he (by rw [hsz]; exact ⟨hit, (show st.heap.IsTuple a us.toArray from ht)⟩) fun h' eb => ⟨rfl, J.turned (t' := st.toks) (fun b o hb q => eb b o hb q) f0 f1 f3 f4 f5⟩
  self := fun A i st Q E tn h => by
    obtain ⟨⟨_, he⟩, _⟩ := tn
    exact wpAny_pyIter_enum he h
def iEnumT (K : PySem.W.Frag) (ta : TA) : TI := fun σ H R => ta σ H fun vs H1 => ∃ a xs, vs = [.ref a] ∧ SqT K H1 a xs ∧ R (IteT K a) H1
theorem pi_enumT {X : Cx} {e : Expr} {ta : TA} {p pos tpos : Pos} {elts : List Expr} {kk : Nat} (hg : Gl X "enumerate") (hm : X.mg "enumerate" = none) (ha : PA X [e] ta) (hs : starEach [e] X.env = [(false, eval e X.env)] := by rfl) :
    PI X (.Tuple elts kk tpos) (.Call (.Name "enumerate" p) [e] [] pos) (iEnumT X.K ta) := by
  refine ⟨fun pns st lc Hp0 R J h => ?_⟩
  refine Call_ (ld_blt J hg hm boot_enumerate (PyProof.Rows.callWith_type1 (thn (ha.run pos pns st lc Hp0 _ J h) fun ws s1 ⟨vs, H1, I1, r1, q1⟩ => ?_) hs rfl))
  obtain ⟨a, xs, ex, hq, q⟩ := q1
  subst ex
  cases r1 with
  | cons r rr =>
    cases rr
    cases r
    obtain ⟨us, rv, ht, hz⟩ := I1.tuple hq
    have hta : a < s1.heap.objs.size := ht.lt
    refine call_enumT (show s1.heap.IsTuple a us.toArray from ht) fun h' he hit hsz hk => wpAny_pyIter_enum he ?_
    have I2 : Inv X pns lc H1 { s1 with heap := h' } := I1.kept (t' := s1.toks) hk
    refine ⟨s1.heap.objs.size + 1, [s1.heap.objs.size + 1, s1.heap.objs.size], _, _, H1, rfl, I2, turn_enumT a (s1.heap.objs.size + 1) s1.heap.objs.size (Nat.ne_of_lt hta), ⟨⟨.none, he⟩, hit, Nat.succ_ne_self _⟩, fun b hb => ?_, q⟩
    have eb : b = s1.heap.objs.size + 1 ∨ b = s1.heap.objs.size := by simpa using hb
    have hle : s1.heap.objs.size ≤ b := by
      rcases eb with z | z
      · rw [z]; exact Nat.le_add_right _ _
      · rw [z]; exact Nat.le_refl _
    exact I1.fpOk hle (I1.hok.fresh hle)
theorem lc_enumT {K : PySem.W.Frag} {a : Addr} {xs : List V} {g : TG} {tt : TT} {te : TE} {vs : List Nat} {σ : St} {H1 : Hp} {D : Addr} {Qd : Hp → Prop} (Pv : Nat → Hp → Prop) (h0 : Pv 0 (upd H1 D (.lst []))) (hl : ∀ i H, i ≤ xs.length → Pv i H → SqT K H a xs)
    (hs : ∀ i x N ob H, xs[i]? = some x → Pv i H → H N = none → ob.dict = none → g (.ref N) (wipe σ vs) (upd H N (.frz ob (.tup [.int (i : Nat), x]))) fun σ2 H2 => wipe σ2 vs = wipe σ vs ∧ tt σ2 H2 fun b H3 =>
      if b = true then te σ2 H3 fun y H4 => ∃ acc, H4 D = some (.lst acc) ∧ acc.length < sizeLine ∧ Pv (i + 1) (upd H4 D (.lst (acc ++ [y]))) else Pv (i + 1) H3) (hd : ∀ H, Pv xs.length H → Qd H) :
    ∃ W : Nat → Nat → Hp → Prop, (∃ m, W 0 m (upd H1 D (.lst []))) ∧ ∀ i m H, W i m H →
      ((IteT K a).stop i H ∧ Qd H) ∨ ((IteT K a).go i H ∧ ∃ Nx : Hp → Prop, (∀ H', Nx H' → ∃ m', m' < m ∧ W (i + 1) m' H') ∧ ∀ x H', (IteT K a).yld i H x H' → g x (wipe σ vs) H' fun σ2 H2 => wipe σ2 vs = wipe σ vs ∧ tt σ2 H2 fun b H3 =>
        if b = true then te σ2 H3 fun y H4 => ∃ acc, H4 D = some (.lst acc) ∧ acc.length < sizeLine ∧ Nx (upd H4 D (.lst (acc ++ [y]))) else Nx H3) := by
  refine ⟨fun i m H => m = xs.length - i ∧ i ≤ xs.length ∧ Pv i H, ⟨xs.length, by simp, Nat.zero_le _, h0⟩, ?_⟩
  rintro i m H ⟨rfl, hi, pv⟩
  have q := hl i H hi pv
  by_cases hlt : i < xs.length
  · refine .inr ⟨⟨xs, xs[i], q, by simp [hlt]⟩, Pv (i + 1), fun H' p' => ⟨xs.length - (i + 1), by omega, rfl, hlt, p'⟩, ?_⟩
    rintro v H' ⟨N, ob, x, rfl, hn, hob, rfl, y⟩
    exact hs i x N ob H (y xs q) pv hn hob
  · have e : i = xs.length := by omega
    subst e
    exact .inl ⟨⟨xs, q, rfl⟩, hd H pv⟩
end L2
namespace Ov
open PySem L2 PySem.Spec PyProof.Rows
section
variable {X : Cx} {c : Cc} {δ : List Sl} {elt iter tgE cnd a : Expr} {ifs : List Expr} {scope : Scope} {own : List (Str × Nat)} {pos p : Pos} {m : Mo} {ns : List Int} {t : Nat × Int → Bool} {f : Nat × Int → D} {tg : Tgt} {tt : TT}
abbrev encE : Nat × Int → D := fun q => .tup [.int (q.1 : Nat), .int q.2]
def enumL (ns : List Int) : List (Nat × Int) := (List.range ns.length).map fun i => (i, ns.getD i 0)
theorem enumL_len (ns : List Int) : (enumL ns).length = ns.length := by simp [enumL]
theorem enumL_get {ns : List Int} {i : Nat} (h : i < ns.length) : (enumL ns)[i]? = some (i, ns.getD i 0) := by
  unfold enumL
  rw [List.getElem?_map, List.getElem?_range h]; rfl
/-- one turn, the item new -/
theorem LcP.turnN (P : LcP X c δ elt tgE ifs scope own .val encE (enumL ns) t f tg tt) {S : G} {σ : L2.St} {D N : Addr} {ob : Obj} (hD : S.h D = none) {i : Nat} {x : Int} (hx : ns[i]? = some x) {H : Hp} (hN : H N = none) (hob : ob.dict = none)
    (h : LcI c S (L2.wipe σ (wOwn own)) (wipeD δ (wOwn own)) D ((((enumL ns).take i).filter t).map f) H) :
    tg.g X.K (.ref N) (L2.wipe σ (wOwn own)) (upd H N (.frz ob (.tup [.int (i : Nat), .int x]))) fun σ2 H2 => L2.wipe σ2 (wOwn own) = L2.wipe σ (wOwn own) ∧ tt σ2 H2 fun b H3 =>
      if b = true then eAll c (wipeD δ (wOwn own)) tg .val encE (enumL ns) t f σ2 H3 fun y H4 => ∃ acc, H4 D = some (.lst acc) ∧ acc.length < sizeLine ∧
        LcI c S (L2.wipe σ (wOwn own)) (wipeD δ (wOwn own)) D ((((enumL ns).take (i + 1)).filter t).map f) (upd H4 D (.lst (acc ++ [y])))
      else LcI c S (L2.wipe σ (wOwn own)) (wipeD δ (wOwn own)) D ((((enumL ns).take (i + 1)).filter t).map f) H3 := by
  have hi : i < ns.length := (List.getElem?_eq_some_iff.mp hx).1
  have hxd : ns.getD i 0 = x := by rw [List.getD_eq_getElem?_getD, hx]; rfl
  have ha : (enumL ns)[i]? = some (i, x) := by rw [enumL_get hi, hxd]
  have hm := List.mem_of_getElem? ha
  rw [filt_succ t f ha]
  have ww : L2.wipe (L2.wipe σ (wOwn own)) (wOwn own) = L2.wipe σ (wOwn own) := by
    have : ∀ (vs ws : List Nat), (∀ v ∈ vs, v ∈ ws) → L2.wipe (L2.wipe σ vs) ws = L2.wipe σ ws := by
      intro vs
      induction vs with
      | nil => intro ws _; rfl
      | cons v vs ih =>
        intro ws h
        show L2.wipe ((L2.wipe σ vs).set v none) ws = _
        rw [wipe_comm _ v none ws (h v List.mem_cons_self)]
        exact ih ws fun w hw => h w (List.mem_cons_of_mem _ hw)
    exact this _ _ fun v h => h
  have hl : ((((enumL ns).take i).filter t).map f).length < 100000 := by
    rw [List.length_map]
    have h1 := List.length_filter_le t ((enumL ns).take i)
    have h2 := P.sz
    rw [List.length_take] at h1
    rw [enumL_len] at h1 h2
    omega
  generalize (((enumL ns).take i).filter t).map f = rs at *
  obtain ⟨S1, rfl, l1, g1, w1, acc, hDs, hr⟩ := h
  have l2 : Le c S1 (S1.add N (.frz ob (.tup [.int (i : Nat), .int x]))) := Le.add g1.exb hN
  have g2 := g1.add (o := .frz ob (.tup [.int (i : Nat), .int x])) hN
  have r : ReM c (S1.add N (.frz ob (.tup [.int (i : Nat), .int x]))) .val (.ref N) (encE (i, x)) := .tup ⟨ob, upd_same, hob⟩ (.cons (.int _) (.cons (.int _) .nil))
  have z : tg.g X.K (.ref N) (L2.wipe σ (wOwn own)) (S1.add N (.frz ob (.tup [.int (i : Nat), .int x]))).h fun σ2 H2 => L2.wipe σ2 (wOwn own) = L2.wipe (L2.wipe σ (wOwn own)) (wOwn own) ∧ tt σ2 H2 fun b H3 =>
      if b = true then eAll c (wipeD δ (wOwn own)) tg .val encE (enumL ns) t f σ2 H3 fun y H4 => ∃ acc, H4 D = some (.lst acc) ∧ acc.length < sizeLine ∧
        LcI c S (L2.wipe σ (wOwn own)) (wipeD δ (wOwn own)) D (if t (i, x) = true then rs ++ [f (i, x)] else rs) (upd H4 D (.lst (acc ++ [y])))
      else LcI c S (L2.wipe σ (wOwn own)) (wipeD δ (wOwn own)) D (if t (i, x) = true then rs ++ [f (i, x)] else rs) H3 := by
    refine tg.run g2 r (by rw [wipeD_len]; exact P.tk _ hm) fun σ2 g3 hwp => ⟨hwp _ P.tw, ?_⟩
    refine P.tt _ hm σ2 _ _ g3 fun S2 l3 g4 => ?_
    have w2 := (w1.le l2 (ne_some hDs)).le l3 (ne_some (l2.h _ _ hDs))
    have hD2 := l3.h _ _ (l2.h _ _ hDs)
    cases hb : t (i, x) with
    | true =>
      refine ⟨(i, x), ⟨hm, hb⟩, S2, rfl, g4, fun v S3 l4 g5 rv => ?_⟩
      have g6 : Good c S3 (L2.wipe σ (wOwn own)) (wipeD δ (wOwn own)) := g1.le ((l2.trans l3).trans l4) g5.exb
      refine ⟨acc, l4.h _ _ hD2, szl (by rw [hr.length]; exact hl), ?_⟩
      exact LcI.more (((l1.trans l2).trans l3).trans l4) g6 (w2.le l4 (ne_some hD2)) (l4.h _ _ hD2) (hr.mono ((l2.trans l3).trans l4).b) rv hD
    | false =>
      exact ⟨S2, rfl, (l1.trans l2).trans l3, g1.le (l2.trans l3) g4.exb, w2, acc, hD2, hr.mono (l2.trans l3).b⟩
  rw [ww] at z
  exact z
theorem LcP.enum (P : LcP X c δ elt tgE ifs scope own .val encE (enumL ns) t f tg tt) (σ : L2.St) (H : Hp) (Q : VK) (h : tE c .fr δ (.lst (((enumL ns).filter t).map f)) σ H Q) :
    tLc (iEnumT X.K (tA c δ [(m, .tup (ns.map D.int))])) (tg.g X.K) tt (eAll c (wipeD δ (own.map (·.2))) tg .val encE (enumL ns) t f) (own.map (·.2)) σ H Q := by
  obtain ⟨S, rfl, g, q⟩ := h
  refine ⟨S, rfl, g, fun vs S1 l1 g1 r1 => ?_⟩
  obtain ⟨v, rfl, r⟩ := r1.one
  obtain ⟨a0, rfl, ht⟩ := g1.toGoodH.tupI r
  refine ⟨a0, _, rfl, ht.sq, fun D hD => ?_⟩
  refine lc_enumT (xs := ns.map V.int) (fun i H => LcI c S1 (L2.wipe σ (own.map (·.2))) (wipeD δ (own.map (·.2))) D ((((enumL ns).take i).filter t).map f) H) ?_ (fun i H _ hi => ?_) (fun i x N ob H hxi hi hn hob => ?_) (fun H hi => ?_)
  · exact LcI.start (g1.wipe _) hD
  · obtain ⟨S2, rfl, l2, _⟩ := hi
    exact (ht.mono l2.h).sq
  · rw [List.getElem?_map] at hxi
    obtain ⟨y, hy, rfl⟩ := Option.map_eq_some_iff.mp hxi
    exact P.turnN hD hy hn hob hi
  · have e : (enumL ns).take (ns.map V.int).length = enumL ns := List.take_of_length_le (by rw [enumL_len, List.length_map]; exact Nat.le_refl _)
    have hi : LcI c S1 _ _ D ((((enumL ns).take (ns.map V.int).length).filter t).map f) H := hi
    rw [e] at hi
    obtain ⟨S2, rfl, l2, g2, r2⟩ := LcI.done g1 (wipeD_len δ _) hD hi
    exact q _ S2 (l1.trans l2) g2 r2
theorem de_lcE {elts : List Expr} {kk : Nat} {tpos : Pos} (hi : DE X c m δ a (.tup (ns.map D.int))) (P : LcP X c δ elt (.Tuple elts kk tpos) ifs scope own .val encE (enumL ns) t f tg tt) (hg : Gl X "enumerate") (hm : X.mg "enumerate" = none)
    (hs : ∀ x, foldedSetIterable (.Call (.Name "enumerate" p) [a] [] pos) X.env x = pure x := by intro _; rfl) (hs2 : starEach [a] X.env = [(false, eval a X.env)] := by rfl) (hs3 : starEach [a] X.env = (false, eval a X.env) :: starEach [] X.env := by rfl) {pos2 : Pos} :
    DE X c .fr δ (.ListComp elt [⟨.Tuple elts kk tpos, .Call (.Name "enumerate" p) [a] [] pos, ifs, 0⟩] scope pos2) (.lst (((enumL ns).filter t).map f)) :=
  ⟨hi.k, PE.imp (pe_lc P.calm P.nd (pi_enumT hg hm (da_cons hi (da_nil hi.k) hs3).pa hs2) P.ok (fun s H C cl fp => (P.tgs s H C cl fp).pg) P.ifs P.els hs) fun σ H Q h => P.enum σ H Q h⟩
end
end Ov

/-! Plain: crossings exchanged; drawings that fall, their first loop. -/
namespace Ov
open L2
/-! ### crossings exchanged -/
section
variable (p : Int → Bool)
def flX (x : Int) : Int := if p (iabs x) = true then -x else x
def flPs (ps : List Int) : List Int := ps.map (flX p)
def flTs (ts : List Int) : List Int := (List.range ts.length).map fun i : Nat => if p ((i : Int) + 1) = true then -(ts.getD i 0) else ts.getD i 0
variable {p}
theorem flX_abs (x : Int) : iabs (flX p x) = iabs x := by
  unfold flX
  split
  · exact iabs_neg x
  · rfl
theorem flX_odd (x : Int) : flX p (-x) = -flX p x := by
  unfold flX
  rw [iabs_neg]
  split <;> omega
theorem flX_flX (x : Int) : flX p (flX p x) = x := by
  unfold flX
  by_cases h : p (iabs x) = true
  · rw [if_pos h, iabs_neg, if_pos h]; omega
  · rw [if_neg h, if_neg h]
theorem flX_inj {x y : Int} (h : flX p x = flX p y) : x = y := by rw [← flX_flX (p := p) x, h, flX_flX]
theorem flX_ne {x : Int} (h : x ≠ 0) : flX p x ≠ 0 := by unfold flX; split <;> omega
theorem flX_mem {x : Int} {l : List Int} : flX p x ∈ l.map (flX p) ↔ x ∈ l := by
  constructor
  · intro h
    obtain ⟨y, hy, e⟩ := List.mem_map.mp h
    exact flX_inj e ▸ hy
  · exact fun h => List.mem_map.mpr ⟨x, h, rfl⟩
theorem ap_flip {n : Int} : ∀ (ns met : List Int), apRun n met (ns.map .int) = true → apRun n (met.map (flX p)) ((ns.map (flX p)).map .int) = true
  | [], _, _ => rfl
  | i :: ns, met, h => by
    rw [List.map_cons] at h
    unfold apRun at h
    split at h
    · cases h
    · rename_i h1
      split at h
      · cases h
      · rename_i h2
        have ih := ap_flip ns (met ++ [i]) h
        rw [List.map_append] at ih
        show apRun n (met.map (flX p)) (.int (flX p i) :: (ns.map (flX p)).map .int) = true
        unfold apRun
        have c1 : ¬ (flX p i = 0 ∨ flX p i ∈ met.map (flX p) ∨ n < iabs (flX p i)) := by
          rw [flX_mem, flX_abs]
          rintro (z | z | z)
          · exact h1 (.inl (Decidable.byContradiction fun q => flX_ne q z))
          · exact h1 (.inr (.inl z))
          · exact h1 (.inr (.inr z))
        have e1 : (met.map (flX p)).map iabs = met.map iabs := by
          rw [List.map_map]
          exact List.map_congr_left fun x _ => flX_abs x
        have c2 : ¬ (-(flX p i) ∉ met.map (flX p) ∧ iabs (flX p i) ≠ 1 + ((dd ((met.map (flX p)).map iabs)).length : Int)) := by
          rw [← flX_odd, flX_mem, flX_abs, e1]
          exact h2
        rw [if_neg c1, if_neg c2]
        exact ih
theorem flTs_len (ts : List Int) : (flTs p ts).length = ts.length := by simp [flTs]
theorem flTs_get {ts : List Int} {i : Nat} (h : i < ts.length) : (flTs p ts).getD i 0 = if p ((i : Int) + 1) = true then -(ts.getD i 0) else ts.getD i 0 := by
  unfold flTs
  rw [List.getD_eq_getElem?_getD, List.getElem?_map, List.getElem?_range h]; rfl
theorem cf_flip {ps ts : List Int} (h : CF ps ts) : CF (flPs p ps) (flTs p ts) := by
  obtain ⟨h40, hl, hap, hpm⟩ := drD_parts h.dr
  obtain ⟨pm, nd⟩ := passes_pair hap hl
  have hap' : apRun (flTs p ts).length [] ((flPs p ps).map .int) = true := by rw [flTs_len]; exact ap_flip ps [] hap
  have hl' : (flPs p ps).length = 2 * (flTs p ts).length := by rw [flTs_len]; unfold flPs; rw [List.length_map]; exact hl
  have hpm' : Pm (flTs p ts) := fun t ht => by
    unfold flTs at ht
    obtain ⟨i, hi, rfl⟩ := List.mem_map.mp ht
    have hi := List.mem_range.mp hi
    have := hpm (ts.getD i 0) (Ov.getD_mem hi)
    split <;> omega
  have A := dr_ar hap hl hpm
  have A' := dr_ar hap' hl' hpm'
  have R : Ren ps (flX p) := ⟨fun x hx => ((pm x).mp hx).1, fun x hx => (pm _).mpr ⟨by have := ((pm x).mp hx).1; omega, by rw [iabs_neg]; exact ((pm x).mp hx).2⟩, fun x _ y _ e => flX_inj e, fun x _ => flX_odd x⟩
  have hc := cl_map R A A' (fun x hx => by
    obtain ⟨h0, h1⟩ := (pm x).mp hx
    have p1 := iabs_pos h0
    have e1 := kept_get (ps := ps) (ts := ts) (x := iabs x) p1 h1
    have e2 := kept_get (ps := flPs p ps) (ts := flTs p ts) (x := iabs x) p1 (by rw [flTs_len]; exact h1)
    rw [flTs_get (by omega), show (((iabs x).toNat - 1 : Nat) : Int) + 1 = iabs x by omega] at e2
    unfold epsM
    rw [flX_abs]
    show (if flX p x < 0 then -(dget (keptM (flPs p ps) (flTs p ts) 0 0) (iabs x)).getD 0 else (dget (keptM (flPs p ps) (flTs p ts) 0 0) (iabs x)).getD 0) = _
    rw [e1, e2]
    unfold flX
    by_cases q : p (iabs x) = true
    · rw [if_pos q, if_pos q]
      show (if -x < 0 then -(-(ts.getD ((iabs x).toNat - 1) 0)) else -(ts.getD ((iabs x).toNat - 1) 0)) = if x < 0 then -(ts.getD ((iabs x).toNat - 1) 0) else ts.getD ((iabs x).toNat - 1) 0
      by_cases z : x < 0
      · rw [if_neg (by omega), if_pos z]
      · rw [if_pos (by omega), if_neg z, Int.neg_neg]
    · rw [if_neg q, if_neg q]) h.cl
  have hc : CL (flPs p ps ++ [0]) (keptM (flPs p ps) (flTs p ts) 0 0) ((flTs p ts).length + 2) := by rw [flTs_len]; exact hc
  refine ⟨?_, hc⟩
  have hf := ol_faces A' (cl_ol (k := (flTs p ts).length + 1) hc)
  exact dr_is (by rw [flTs_len]; exact h40) hap' hl' hpm' (by push_cast at hf; omega)
end
/-! ### falling -/
def Falls (sg : Int) (ps : List Int) : Prop := ∀ l x r, ps = l ++ x :: r → -x ∉ l → 0 < x * sg
theorem falls_filter {sg : Int} {ps : List Int} (q : Int → Bool) (hq : ∀ x, q (-x) = q x) (h : Falls sg ps) : Falls sg (ps.filter q) := fun l x r e hn => by
  obtain ⟨l1, r1, e1, e2, e3⟩ := List.filter_eq_append_iff.mp e
  obtain ⟨l2, r2, e4, e5, e6, e7⟩ := List.filter_eq_cons_iff.mp e3
  refine h (l1 ++ l2) x r2 (by rw [e1, e4]; simp) fun z => ?_
  rcases List.mem_append.mp z with z | z
  · exact hn (e2 ▸ List.mem_filter.mpr ⟨z, by rw [hq]; exact e6⟩)
  · have := e5 _ z
    rw [hq] at this
    exact this e6
theorem falls_map {sg : Int} (hs : sg = 1 ∨ sg = -1) {ps : List Int} {ν : Int → Int} (h : Falls sg ps) (odd : ∀ x ∈ ps, ν (-x) = -ν x) (neg : ∀ x ∈ ps, (ν x < 0 ↔ x < 0)) (ne : ∀ x ∈ ps, ν x ≠ 0) (cl : ∀ x ∈ ps, -x ∈ ps) : Falls sg (ps.map ν) := fun l y r e hn => by
  obtain ⟨l1, r1, e1, e2, e3⟩ := List.map_eq_append_iff.mp e
  obtain ⟨x, r2, e4, e5, e6⟩ := List.map_eq_cons_iff.mp e3
  subst e2 e5
  have hx : x ∈ ps := by rw [e1, e4]; simp
  have h1 := h l1 x r2 (by rw [e1, e4]) fun z => hn (List.mem_map.mpr ⟨-x, z, odd x hx⟩)
  have h2 := neg x hx
  have h3 := ne x hx
  rcases hs with rfl | rfl <;> omega
def firstsM (ps : List Int) : List Int := ((List.range ps.length).filter fun i => !decide (-(ps.getD i 0) ∈ ps.take i)).map fun i => ps.getD i 0
theorem firsts_falls {sg : Int} (hs : sg = 1 ∨ sg = -1) {ps : List Int} (h : ∀ x ∈ firstsM ps, 0 < x * sg) : Falls sg ps := fun l x r e hn => by
  have hl : l.length < ps.length := by rw [e]; simp
  have hx : ps.getD l.length 0 = x := by rw [e, List.getD_eq_getElem?_getD, List.getElem?_append_right (Nat.le_refl _), Nat.sub_self]; rfl
  have ht : ps.take l.length = l := by rw [e]; exact List.take_left' rfl
  refine h x (List.mem_map.mpr ⟨l.length, List.mem_filter.mpr ⟨List.mem_range.mpr hl, ?_⟩, hx⟩)
  rw [hx, ht, decide_eq_false hn]; rfl
def kindM (ps : List Int) : Option Bool :=
  if ((firstsM ps).filter fun x => decide (x < 0)).length = 0 then some true else if ((firstsM ps).filter fun x => decide (0 < x)).length = 0 then some false else none
theorem kind_falls {ps : List Int} {ov : Bool} (hk : kindM ps = some ov) (h0 : ∀ x ∈ ps, x ≠ 0) : Falls (if ov = true then 1 else -1) ps := by
  have mem : ∀ x ∈ firstsM ps, x ∈ ps := fun x hx => by
    obtain ⟨i, hi, rfl⟩ := List.mem_map.mp hx
    exact Ov.getD_mem (List.mem_range.mp (List.mem_filter.mp hi).1)
  unfold kindM at hk
  split at hk
  · rename_i h1
    cases hk
    refine firsts_falls (.inl rfl) fun x hx => ?_
    have h2 := h0 x (mem x hx)
    have h3 : ¬ x < 0 := fun z => by
      have : x ∈ (firstsM ps).filter fun x => decide (x < 0) := List.mem_filter.mpr ⟨hx, decide_eq_true z⟩
      rw [List.eq_nil_of_length_eq_zero h1] at this; cases this
    show 0 < x * 1
    omega
  · split at hk
    · rename_i h1
      cases hk
      refine firsts_falls (.inr rfl) fun x hx => ?_
      have h2 := h0 x (mem x hx)
      have h3 : ¬ 0 < x := fun z => by
        have : x ∈ (firstsM ps).filter fun x => decide (0 < x) := List.mem_filter.mpr ⟨hx, decide_eq_true z⟩
        rw [List.eq_nil_of_length_eq_zero h1] at this; cases this
      show 0 < x * -1
      omega
    · cases hk
/-! ### the first loop -/
def secM (ps : List Int) (i : Nat) : Bool := decide (-(ps.getD i 0) ∈ ps.take i)
def atM (ps : List Int) : Nat := (List.range ps.length).findIdx (secM ps)
def bgL (ps : List Int) : Nat := ps.idxOf (-(ps.getD (atM ps) 0))
structure LoopOk (sg : Int) (ps : List Int) : Prop where
  lt : bgL ps < atM ps
  hi : atM ps < ps.length
  pair : ps.getD (bgL ps) 0 = -(ps.getD (atM ps) 0)
  sec : secM ps (atM ps) = true
  fst : ∀ j, j < atM ps → secM ps j = false
  sign : ∀ x ∈ (ps.drop (bgL ps)).take (atM ps - bgL ps), 0 ≤ x * sg
theorem loop_ok {sg : Int} {ps : List Int} (hne : ps ≠ []) (nd : ps.Nodup) (nz : ∀ x ∈ ps, x ≠ 0) (cl : ∀ x ∈ ps, -x ∈ ps) (hf : Falls sg ps) : LoopOk sg ps := by
  have hpos := List.length_pos_iff.mpr hne
  have ex : ∃ x ∈ List.range ps.length, secM ps x = true := by
    refine ⟨ps.length - 1, List.mem_range.mpr (by omega), ?_⟩
    have hm : ps.getD (ps.length - 1) 0 ∈ ps := Ov.getD_mem (by omega)
    have h0 := nz _ hm
    have hn := cl _ hm
    obtain ⟨j, hj, e⟩ := List.mem_iff_getElem.mp hn
    have hjl : j ≠ ps.length - 1 := fun z => by
      subst z
      have : ps.getD (ps.length - 1) 0 = ps[ps.length - 1] := by rw [List.getD_eq_getElem?_getD, List.getElem?_eq_getElem hj]; rfl
      rw [this] at e h0
      omega
    refine decide_eq_true ?_
    rw [← e]
    exact List.mem_iff_getElem.mpr ⟨j, by rw [List.length_take]; omega, by rw [List.getElem_take]⟩
  have hat : atM ps < (List.range ps.length).length := List.findIdx_lt_length_of_exists ex
  have hat' : atM ps < ps.length := by rw [List.length_range] at hat; exact hat
  have hs : secM ps (atM ps) = true := by
    have h2 : (List.range ps.length)[atM ps]'hat = atM ps := List.getElem_range hat
    have h1 : secM ps ((List.range ps.length)[atM ps]'hat) = true := List.findIdx_getElem (w := hat)
    exact (congrArg (secM ps) h2).symm.trans h1
  have hfst : ∀ j, j < atM ps → secM ps j = false := fun j hj => by
    have := List.not_of_lt_findIdx (p := secM ps) (xs := List.range ps.length) hj
    simpa using this
  have hin : -(ps.getD (atM ps) 0) ∈ ps.take (atM ps) := of_decide_eq_true hs
  have hb : bgL ps < atM ps := by
    obtain ⟨j, hj, e⟩ := List.mem_iff_getElem.mp hin
    rw [List.length_take] at hj
    rw [List.getElem_take] at e
    have e2 := idx_get nd (i := j) (by omega)
    have e3 : ps.getD j 0 = ps[j] := by rw [List.getD_eq_getElem?_getD, List.getElem?_eq_getElem (by omega)]; rfl
    rw [e3, e] at e2
    show ps.idxOf (-(ps.getD (atM ps) 0)) < atM ps
    rw [e2]; omega
  refine ⟨hb, hat', get_idx (List.mem_of_mem_take hin), hs, hfst, fun x hx => ?_⟩
  obtain ⟨j, hj, e⟩ := List.mem_iff_getElem.mp hx
  rw [List.length_take, List.length_drop] at hj
  rw [List.getElem_take, List.getElem_drop] at e
  have hjl : bgL ps + j < ps.length := by omega
  have h1 := hfst (bgL ps + j) (by omega)
  have h2 : ps.getD (bgL ps + j) 0 = x := by rw [List.getD_eq_getElem?_getD, List.getElem?_eq_getElem hjl, e]; rfl
  have h3 : -x ∉ ps.take (bgL ps + j) := by
    rw [← h2]; exact of_decide_eq_false h1
  have := hf (ps.take (bgL ps + j)) x (ps.drop (bgL ps + j + 1)) (by rw [← e, ← List.drop_eq_getElem_cons hjl, List.take_append_drop]) h3
  omega
/-- its ends meet when it is lifted -/
theorem loop_meets {sg : Int} (hs : sg = 1 ∨ sg = -1) {ps ts : List Int} (h : CF ps ts) (L : LoopOk sg ps) : meetsM (rowM ps (bgL ps) (atM ps)) (keptM ps ts (bgL ps) (atM ps)) = true := by
  obtain ⟨h40, hl, hap, hpm⟩ := drD_parts h.dr
  obtain ⟨pm, nd⟩ := passes_pair hap hl
  have hlt := L.lt
  have hhi := L.hi
  have S := start_ok hap hl hpm (Nat.le_of_lt hlt)
  obtain ⟨hop, _⟩ := back_step h hs (b0 := bgL ps) (j := 0) (e := atM ps) (by omega) (by omega) L.sign (a := (rowM ps (bgL ps) (atM ps), keptM ps ts (bgL ps) (atM ps), (rowM ps (bgL ps) (atM ps)).length)) S rfl (Rn.refl _ _) _ rfl
  rw [Nat.add_zero] at hop
  obtain ⟨⟨_, _, hw⟩, hsm⟩ := open_mem.mp hop
  -- the other pass stands first
  have hpar := L.pair
  have hfirst : (rowM ps (bgL ps + 1) (atM ps)).idxOf (-(ps.getD (bgL ps) 0)) = 0 := by
    obtain ⟨g, x, K, ex, eg⟩ := lift_crs h.dr hs hlt (by omega) L.sign
    have hin : -x ∈ rowM ps (bgL ps + 1) (atM ps) := by rw [K.eq]; simp
    have hk := (rowM_mem.mp hin).2
    rw [← ex]
    have exx : -x = ps.getD (atM ps) 0 := by rw [ex, hpar]; omega
    have hd : ps.drop (atM ps) = -x :: ps.drop (atM ps + 1) := by
      rw [List.drop_eq_getElem_cons hhi, exx]
      congr 1
      rw [List.getD_eq_getElem?_getD, List.getElem?_eq_getElem hhi]; rfl
    unfold rowM
    rw [hd, List.cons_append, List.cons_append, List.filter_cons, if_pos (by simpa using hk), List.idxOf_cons_self]
  rw [hfirst] at hsm
  have s2 : sameF (rowM ps (bgL ps) (atM ps)) (keptM ps ts (bgL ps) (atM ps)) (0, 1) (0, -1) = true := by
    have := same_bey S.ar (x := (0, -1)) (dn_side (Nat.zero_le _))
    rw [bey_beg] at this
    exact this
  have hw : epsM (keptM ps ts (bgL ps + 1) (atM ps)) (ps.getD (bgL ps) 0) = 1 ∨ epsM (keptM ps ts (bgL ps + 1) (atM ps)) (ps.getD (bgL ps) 0) = -1 := hw
  show sameF _ _ _ _ = true
  rcases hw with q | q
  · rw [q] at hsm
    exact same_trans (same_symm hsm) s2
  · rw [q] at hsm
    exact same_symm hsm
/-- what is left falls, too -/
theorem loop_left {sg : Int} (hs : sg = 1 ∨ sg = -1) {ps ts : List Int} (h : CF ps ts) (hf : Falls sg ps) (L : LoopOk sg ps) :
    CF (lnP (joinX (rowM ps (bgL ps) (atM ps)))) (lnT (tfA (keptM ps ts (bgL ps) (atM ps))) (joinX (rowM ps (bgL ps) (atM ps)))) ∧
    (lnT (tfA (keptM ps ts (bgL ps) (atM ps))) (joinX (rowM ps (bgL ps) (atM ps)))).length + (atM ps - bgL ps) = ts.length ∧ Falls sg (lnP (joinX (rowM ps (bgL ps) (atM ps)))) := by
  obtain ⟨h40, hl, hap, hpm⟩ := drD_parts h.dr
  obtain ⟨pm, nd⟩ := passes_pair hap hl
  have hlt := L.lt
  have hhi := L.hi
  have S := start_ok hap hl hpm (Nat.le_of_lt hlt)
  have hcf := lay_cf h hs (Nat.le_of_lt hlt) (Nat.le_of_lt hhi) L.sign (w := []) trivial (loop_meets hs h L) (by simpa using h40)
  have hc2 : (lnT (tfA (keptM ps ts (bgL ps) (atM ps))) (joinX (rowM ps (bgL ps) (atM ps)))).length + (atM ps - bgL ps) = ts.length + 0 := hcf.2
  refine ⟨hcf.1, hc2, ?_⟩
  obtain ⟨P, A, hjl, htn⟩ := join_ps S
  have e0 : joinX (rowM ps (bgL ps) (atM ps)) = ps.filter fun x => !decide (iabs x ∈ liftedM ps (bgL ps) (atM ps)) := by
    have n0 : (0 : Int) ∉ liftedM ps (bgL ps) (atM ps) := fun z => by
      unfold liftedM at z
      obtain ⟨x, hx, ex⟩ := List.mem_map.mp z
      have := iabs_pos ((pm x).mp (List.mem_of_mem_drop (List.mem_of_mem_take hx))).1
      omega
    have h0 : (0 : Int) ∉ ps := fun z => ((pm 0).mp z).1 rfl
    have er : rowM ps (bgL ps) (atM ps) = ((ps.drop (atM ps)).filter fun x => !decide (iabs x ∈ liftedM ps (bgL ps) (atM ps))) ++ 0 :: ((ps.take (bgL ps)).filter fun x => !decide (iabs x ∈ liftedM ps (bgL ps) (atM ps))) := by
      unfold rowM
      rw [List.filter_append, List.filter_append, List.filter_cons, if_pos (by simpa [iabs] using n0)]
      simp
    have i0 : (rowM ps (bgL ps) (atM ps)).idxOf 0 = ((ps.drop (atM ps)).filter fun x => !decide (iabs x ∈ liftedM ps (bgL ps) (atM ps))).length := by
      rw [er, List.idxOf_append, if_neg (fun z => h0 (List.mem_of_mem_drop (List.mem_filter.mp z).1)), List.idxOf_cons_self, Nat.zero_add]
    have mid : ((ps.drop (bgL ps)).take (atM ps - bgL ps)).filter (fun x => !decide (iabs x ∈ liftedM ps (bgL ps) (atM ps))) = [] := by
      refine List.filter_eq_nil_iff.mpr fun x hx => ?_
      have : iabs x ∈ liftedM ps (bgL ps) (atM ps) := List.mem_map.mpr ⟨x, hx, rfl⟩
      simpa using this
    have e3 : ps = ps.take (bgL ps) ++ ((ps.drop (bgL ps)).take (atM ps - bgL ps) ++ ps.drop (atM ps)) := by
      conv => lhs; rw [← List.take_append_drop (bgL ps) ps, ← List.take_append_drop (atM ps - bgL ps) (ps.drop (bgL ps)), List.drop_drop, show bgL ps + (atM ps - bgL ps) = atM ps by omega]
    have er2 : ps.filter (fun x => !decide (iabs x ∈ liftedM ps (bgL ps) (atM ps))) = (ps.take (bgL ps)).filter (fun x => !decide (iabs x ∈ liftedM ps (bgL ps) (atM ps))) ++ (ps.drop (atM ps)).filter (fun x => !decide (iabs x ∈ liftedM ps (bgL ps) (atM ps))) := by
      generalize hq : (fun x => !decide (iabs x ∈ liftedM ps (bgL ps) (atM ps))) = q at *
      conv => lhs; rw [e3]
      rw [List.filter_append, List.filter_append, mid, List.nil_append]
    rw [er2]
    unfold joinX
    rw [i0, er]
    congr 1
    · rw [List.drop_append, List.drop_of_length_le (by omega)]
      simp
    · exact List.take_left' rfl
  have hff : Falls sg (joinX (rowM ps (bgL ps) (atM ps))) := by
    rw [e0]
    exact falls_filter _ (fun x => by rw [iabs_neg]) hf
  rw [lnP_map]
  have R := nu_ren P
  exact falls_map hs hff R.odd (fun x hx => nu_sign (P.nz x hx)) (fun x hx => R.ne hx) P.cl
end Ov

/-! D-layer: try .. except X as e; what e is. -/
namespace Ov
open PySem L2 PySem.Spec PyProof.Rows
section
variable {X : Cx} {W : WX} {c : Cc} {δ : List Sl} {Φ : Po} {pos : Pos}
theorem ds_tryE {x n : Str} {cv : Value} {body suite : List Stmt} {b₀ : Stmt} {np pos' : Pos} {i : Nat} (px : Addr → Prop) (hK : X.K = c.K) (hs : X.stack = X.env :: X.outer) (hf : X.env.frame = some X.env.locals) (hN : X.N.Nodup) (hi : X.N[i]? = some n) (hln : X.env.kindOf n = some .local) (hc : Names X x cv) (tk : Takes X W)
    (hb : ∀ (W' : WX) (pn : List (Addr × Obj)) (xe : Value → Shared → Prop), Takes (X.tr pn xe) W' → PassesOwn (model X.prog X.w) X.A X.env xe → DSs (X.tr pn xe) W' c δ body { Φ with xc := fun a => (PySem.W.exmOne c.K (.ref a) cv = some true ∧ px a) ∨ (PySem.W.exmOne c.K (.ref a) cv = some false ∧ Φ.xc a) })
    (hsu : ∀ eC, px eC → ∀ (a : Addr) (oe : Obj) (pn : List (Addr × Obj)), Zc (.ref eC) none oe → (∃ vs, oe.data = .fields vs) → DSs (X.suite a ((a, oe) :: pn)) W c ((List.replicate X.N.length .any).set i (.val (.exr a))) (b₀ :: suite) { Φ with nx := fun _ => False, bk := fun _ => False, ct := fun _ => False }) :
    DS X W c δ (.Try body [.ExceptHandler (some (.Name x np)) (some n) (b₀ :: suite) pos'] [] [] pos) Φ := by
  refine ⟨hK, PS.imp (ps_try_as (tb := fun W' => sE c W' δ { Φ with xc := fun a => (PySem.W.exmOne c.K (.ref a) cv = some true ∧ px a) ∨ (PySem.W.exmOne c.K (.ref a) cv = some false ∧ Φ.xc a) })
    (ts := fun a cls d D σ H => ∃ eC, (px eC ∧ cls = .ref eC ∧ d = none) ∧ (σ.length = X.N.length → sE c W ((List.replicate X.N.length .any).set i (.val (.exr a))) { Φ with nx := fun _ => False, bk := fun _ => False, ct := fun _ => False } D σ H)) hs hf hN hi hln hc tk (fun W' pn xe t ps => (hb W' pn xe t ps).ps) (fun a oe cls d pn hz hfl => ?_)) fun D σ H ⟨S, e, g, q1, q2, q3, q4, q5⟩ => ?_⟩
  · refine ⟨fun pins s σ H D I ⟨eC, ⟨hp, hc, hd⟩, h⟩ => ?_⟩
    subst hc hd
    exact (hsu eC hp a oe pn hz hfl).ps.run pins s σ H D I (h I.len)
  · refine ⟨S, e, g, q1, q2, q3, q4, fun a S' σ' l g' h => ?_⟩
    rcases h with ⟨h, hp⟩ | ⟨h, hx⟩
    · refine ⟨true, by rw [hK]; exact h, fun _ a0 _ => ⟨a, ⟨hp, rfl, rfl⟩, fun hlen => ?_⟩, fun z => by cases z⟩
      have hiN : i < X.N.length := (List.getElem?_eq_some_iff.mp hi).1
      have gn : Good c S' (σ'.set i (some (.ref a0))) ((List.replicate X.N.length .any).set i (.val (.exr a0))) := by
        refine ⟨g', by rw [hlen, List.length_set, List.length_replicate], fun j s hj => ?_⟩
        by_cases e : j = i
        · subst e
          rw [List.getElem?_set_self (by rw [List.length_replicate]; exact hiN)] at hj
          cases hj
          rw [List.length_set] at hlen
          exact ⟨.ref a0, List.getElem?_set_self (by omega), .exr a0⟩
        · rw [List.getElem?_set_ne (Ne.symm e)] at hj
          have := List.mem_of_getElem? hj
          rw [(List.mem_replicate.mp this).2]; trivial
      refine ⟨S', rfl, gn, ?_, ?_, ?_, ?_, ?_⟩
      · exact fun S2 σ2 δ2 l2 _ z => z.elim
      · exact fun v m d S2 l2 => q2 v m d S2 (l.trans l2)
      · exact fun S2 σ2 δ2 l2 _ z => z.elim
      · exact fun S2 σ2 δ2 l2 _ z => z.elim
      · exact fun b S2 σ2 l2 => q5 b S2 σ2 (l.trans l2)
    · exact ⟨false, by rw [hK]; exact h, fun z => (by cases z), fun _ => q5 a S' σ' l g' hx⟩
theorem GoodH.exrI {S : G} {v : V} {m : Mo} {a : Addr} (g : GoodH c S) (r : ReM c S m v (.exr a)) : v = .ref a := by
  have z := Good.now g r
  cases z with | exr => rfl
theorem de_isE {a D : Addr} {oe : Obj} {pn : List (Addr × Obj)} {ev ct : Expr} {m : Mo} {v : V} {cv : Value} {b : Bool} {p pos' : Pos} (C : ExcC X.K D) (hz : Zc (.ref D) none oe) (hf : ∃ vs, oe.data = .fields vs)
    (he : DE (X.suite a ((a, oe) :: pn)) c m δ ev (.exr a)) (hT : PE (X.suite a ((a, oe) :: pn)) ct (tC v)) (hcv : ∀ u, RelV v u → u = cv) (hk : PySem.W.kitOne X.K (.ref D) cv = some b) (hg : Gl (X.suite a ((a, oe) :: pn)) "isinstance") (hm : (X.suite a ((a, oe) :: pn)).mg "isinstance" = none)
    (h1 : starEach [ev, ct] (X.suite a ((a, oe) :: pn)).env = (false, eval ev (X.suite a ((a, oe) :: pn)).env) :: starEach [ct] (X.suite a ((a, oe) :: pn)).env := by rfl) (h2 : starEach [ct] (X.suite a ((a, oe) :: pn)).env = (false, eval ct (X.suite a ((a, oe) :: pn)).env) :: starEach [] (X.suite a ((a, oe) :: pn)).env := by rfl) (hpl : (backTo pos' (starEach [ct] (X.suite a ((a, oe) :: pn)).env)).any (·.1) = false := by rfl) :
    DE (X.suite a ((a, oe) :: pn)) c .val δ (.Call (.Name "isinstance" p) [ev, ct] [] pos') (.bl b) :=
  DE.mkE he.k (pe_callB (call_isE C hz hf) hg hm boot_isinstance (pa_cons he.nf.pe (pa_cons hT pa_nil h2) h1) (by decide) (by decide) h1 hpl) fun S σ g Q q => ⟨S, rfl, g, fun x S1 l1 g1 r1 => by
    have ex := g1.toGoodH.exrI r1
    subst ex
    exact ⟨v, cv, b, rfl, hcv, hk, q _ S1 l1 g1 (.bl b)⟩⟩
end
end Ov

/-! D-layer: name = [.. enumerate(..) ..] on one line. -/
namespace Ov
open PySem L2 PySem.Spec PyProof.Rows
section
variable {X : Cx} {W : WX} {c : Cc} {δ : List Sl} {elt a : Expr} {ifs : List Expr} {scope : Scope} {own : List (Str × Nat)} {pos p pos1 p1 : Pos} {m : Mo} {ns : List Int} {t : Nat × Int → Bool} {f : Nat × Int → D} {tg : Tgt} {tt : TT} {Φ : Po} {x : Str} {i : Nat}
theorem ds_setLcE {elts : List Expr} {kk : Nat} {tpos pos2 : Pos} (hi : DE X c m δ a (.tup (ns.map D.int))) (P : LcP X c δ elt (.Tuple elts kk tpos) ifs scope own .val encE (enumL ns) t f tg tt) (hg : Gl X "enumerate") (hm : X.mg "enumerate" = none)
    (hx : X.N[i]? = some x) (hl : X.env.scope.names.lookup x = some .local) (hil : i < δ.length) (hn : Φ.nx (δ.set i (.val (.lst (((enumL ns).filter t).map f)))))
    (hsw : swapsWith (.ListComp elt [⟨.Tuple elts kk tpos, .Call (.Name "enumerate" p) [a] [] pos, ifs, 0⟩] scope pos2) (some (.Name x p1)) pos1.line X.env = pure true)
    (hs : ∀ x, foldedSetIterable (.Call (.Name "enumerate" p) [a] [] pos) X.env x = pure x := by intro _; rfl) (hs2 : starEach [a] X.env = [(false, eval a X.env)] := by rfl) (hs3 : starEach [a] X.env = (false, eval a X.env) :: starEach [] X.env := by rfl) :
    DS X W c δ (.Assign [.Name x p1] (.ListComp elt [⟨.Tuple elts kk tpos, .Call (.Name "enumerate" p) [a] [] pos, ifs, 0⟩] scope pos2) pos1) Φ :=
  DS.mkE hi.k (ps_setLc P.calm P.nd hx hl hsw (pi_enumT hg hm (da_cons hi (da_nil hi.k) hs3).pa hs2) P.ok (fun s H C cl fp => (P.tgs s H C cl fp).pg) P.ifs P.els hs) fun S σ g D q1 _ _ _ _ => P.enum σ S.h _ ⟨S, rfl, g, fun v S1 l1 g1 r1 => by
    obtain ⟨S2, e, l2, g2, r2⟩ := g1.mkVal (m := .fr) r1 rfl
    show D.nx _ S1.h
    rw [← e]
    exact q1 S2 _ _ (l1.trans l2).b (g2.putM (m := .val) hil r2) hn⟩
end
end Ov

namespace KK
open PySem L2 Ov PySem.Spec PyProof.Rows
set_option hygiene false
/-! The walk's own words (each local to this file). tb_rel: one step; kct_strs: names; tb_start: expressions; keq_rows: tests; kp_flats: arguments; k_upd: operations by their data; k_updF: built-ins; o_fieldsN: sizes; kat_tups: scopes; keq_hits: the text's own defs. -/
local macro_rules | `(tactic| kat_tups) => `(tactic| first
  | exact Or.inl rfl
  | exact Or.inr (Or.inl rfl)
  | exact Or.inr (Or.inr rfl))
local macro_rules | `(tactic| o_fieldsN) => `(tactic| first
  | (with_reducible rfl)
  | (with_reducible assumption)
  | (simp (config := { failIfUnchanged := false }) only [List.length_map, List.length_set, List.length_cons, List.length_nil, List.length_append, List.length_range] at *; first | decide | omega)
  | omega
  | assumption)
local macro_rules | `(tactic| kp_flats) => `(tactic| first
  | ((with_reducible show DA _ _ _ [] _); (refine' Ov.da_nil ?_); rfl)
  | ((with_reducible show DA _ _ _ (_ :: _) _); refine' Ov.da_cons ?_ ?_))
local macro_rules | `(tactic| keq_rows) => `(tactic| first
  | ((with_reducible show DT _ _ _ (Expr.Compare _ [_] [_] _) _); refine' Ov.dt_cm ?_ ?_ ?_)
  | ((with_reducible show DT _ _ _ (Expr.UnaryOp _ _ _) _); refine' Ov.dt_not ?_)
  | ((with_reducible show DT _ _ _ (Expr.BoolOp BoolOp.And (_ :: _ :: _) _) _); refine' Ov.DW.dt (Ov.dw_and ?_ fun _ => ?_))
  | ((with_reducible show DT _ _ _ (Expr.BoolOp BoolOp.Or (_ :: _ :: _) _) _); refine' Ov.DW.dt (Ov.dw_or ?_ fun _ => ?_))
  | refine' Ov.dt_val ?_)
local macro_rules | `(tactic| tb_start) => `(tactic| first
  | kct_strs
  | ((with_reducible show DE _ _ _ _ (Expr.Constant (Const.int _) _ _) _); (refine' Ov.de_int ?_); rfl)
  | ((with_reducible show DE _ _ _ _ (Expr.BinOp _ _ _ _) _); refine' Ov.de_bin ?_ ?_ ?_)
  | ((with_reducible show DE _ _ _ _ (Expr.Subscript _ (Expr.Slice _ _ _ _) _) _); refine' Ov.de_sl ?_ ?_ ?_ ?_)
  | ((with_reducible show DE _ _ _ _ (Expr.Subscript _ _ _) _); refine' Ov.de_sb ?_ ?_ ?_)
  | ((with_reducible show DE _ _ _ _ (Expr.UnaryOp UnaryOp.USub _ _) _); refine' Ov.de_neg ?_)
  | ((with_reducible show DE _ _ _ _ (Expr.UnaryOp UnaryOp.Not _ _) _); refine' Ov.de_not ?_)
  | ((with_reducible show DE _ _ _ _ (Expr.Compare _ [_] [_] _) _); refine' Ov.de_cm ?_ ?_ ?_)
  | ((with_reducible show DE _ _ _ _ (Expr.BoolOp BoolOp.And (_ :: _ :: _) _) _); refine' Ov.de_and ?_ fun _ => ?_)
  | ((with_reducible show DE _ _ _ _ (Expr.BoolOp BoolOp.Or (_ :: _ :: _) _) _); refine' Ov.de_or ?_ fun _ => ?_)
  | ((with_reducible show DE _ _ _ _ (Expr.BoolOp _ [_] _) _); refine' Ov.de_one ?_)
  | ((with_reducible show DE _ _ _ _ (Expr.IfExp _ _ _ _) _); first | (refine' Ov.de_ifI ?_ (fun _ => ?_) (fun _ => ?_)) | (refine' Ov.de_ifD ?_ (fun _ => ?_) (fun _ => ?_)))
  | ((with_reducible show DE _ _ _ _ (Expr.Tuple _ _ _) _); refine' Ov.de_tup ?_ ?_ ?_)
  | ((with_reducible show DE _ _ _ _ (Expr.List [] _) _); (refine' Ov.de_nil ?_); rfl)
  | ((with_reducible show DE _ _ _ _ (Expr.List _ _) _); refine' Ov.de_lst ?_ ?_ ?_)
  | ((with_reducible show DE _ _ _ _ (Expr.Constant (Const.bool _) _ _) _); (refine' Ov.de_bl ?_); rfl)
  | ((with_reducible show DE _ _ _ _ (Expr.Constant Const.none _ _) _); (refine' Ov.de_non ?_); rfl)
  | ((with_reducible show DE _ _ _ _ (Expr.Constant (Const.str _) _ _) _); (refine' Ov.de_str ?_); rfl)
  | k_updF
  | keq_hits)
local macro_rules | `(tactic| k_upd) => `(tactic| first
  | (with_reducible exact Ov.o_add)
  | (with_reducible exact Ov.o_sub)
  | (with_reducible refine' Ov.o_mul ?_)
  | (with_reducible refine' Ov.o_div ?_)
  | (with_reducible refine' Ov.o_mod ?_)
  | (with_reducible exact Ov.o_lt)
  | (with_reducible exact Ov.o_le)
  | (with_reducible exact Ov.o_gt)
  | (with_reducible exact Ov.o_ge)
  | ((with_reducible show Op2 _ _ (compareOp CmpOp.Eq) _ (D.int _) _ (D.int _) _ _); exact Ov.o_eqI hr.units rfl)
  | ((with_reducible show Op2 _ _ (compareOp CmpOp.NotEq) _ (D.int _) _ (D.int _) _ _); exact Ov.o_neI hr.units rfl)
  | (with_reducible exact Ov.o_isB)
  | (with_reducible exact Ov.o_notB)
  | (with_reducible exact Ov.o_in)
  | (with_reducible exact Ov.o_nin)
  | (with_reducible exact Ov.o_inT)
  | (with_reducible exact Ov.o_ninT)
  | ((with_reducible show Op2 _ _ (compareOp CmpOp.Eq) _ _ _ _ _ _); refine' Ov.o_eq 0 hr.units ?_ ?_ rfl)
  | ((with_reducible show Op2 _ _ (compareOp CmpOp.NotEq) _ _ _ _ _ _); refine' Ov.o_ne 0 hr.units ?_ ?_ rfl)
  | ((with_reducible show Op2 _ _ (binaryOp Operator.Add) _ (D.lst (List.map D.int _)) _ (D.lst (List.map D.int _)) _ _); refine' Ov.o_catI ?_)
  | (with_reducible refine' Ov.o_cat ?_ ?_ ?_)
  | ((with_reducible show Op2 _ _ (binaryOp Operator.Add) Mo.val (D.tup (List.map D.int _)) Mo.val (D.tup (List.map D.int _)) _ _); refine' Ov.o_catTv rfl ?_)
  | ((with_reducible show Op2 _ _ (binaryOp Operator.Add) _ (D.tup (List.map D.int _)) _ (D.tup (List.map D.int _)) _ _); refine' Ov.o_catTb rfl ?_)
  | ((with_reducible show Op2 _ _ (binaryOp Operator.Add) _ (D.tup _) _ (D.tup _) _ _); refine' Ov.o_catT rfl rfl rfl ?_))
local macro_rules | `(tactic| tb_rel) => `(tactic| first
  | ((with_reducible show DE _ _ _ _ _ _); tb_start)
  | ((with_reducible show DT _ _ _ _ _); keq_rows)
  | ((with_reducible show DA _ _ _ _ _); kp_flats)
  | ((with_reducible show DW _ _ _ _ _); first
      | ((with_reducible show DW _ _ _ (Expr.BoolOp BoolOp.And [_] _) _); refine' Ov.dw_and1 ?_)
      | ((with_reducible show DW _ _ _ (Expr.BoolOp BoolOp.Or [_] _) _); refine' Ov.dw_or1 ?_)
      | ((with_reducible show DW _ _ _ (Expr.BoolOp BoolOp.And _ _) _); refine' Ov.dw_and ?_ fun _ => ?_)
      | ((with_reducible show DW _ _ _ (Expr.BoolOp BoolOp.Or _ _) _); refine' Ov.dw_or ?_ fun _ => ?_))
  | ((with_reducible show Op2 _ _ _ _ _ _ _ _ _); k_upd)
  | ((with_reducible show Cm _ _ _ _ _ _ _ _ _); first
      | ((with_reducible show Cm _ _ CmpOp.NotIn _ _ (D.int _) _ (D.dk (iv _)) _); exact cm_ninI (hu_of hr) rfl)
      | ((with_reducible show Cm _ _ CmpOp.NotIn _ _ (D.int _) _ (D.dk _) _); exact cm_ninK (hu_of hr) rfl)
      | ((with_reducible show Cm _ _ CmpOp.In _ _ (D.int _) _ (D.dk _) _); exact cm_inK (hu_of hr) rfl)
      | ((with_reducible show Cm _ _ CmpOp.NotIn _ _ _ _ (D.dp _) _); exact cm_ninP (hu_of hr) rfl)
      | (refine' Ov.cm_of ?_ (by first | rfl | exact nomark _)))
  | ((with_reducible show Cv _ _ _ _ _ _ _ _ _); (refine' Ov.cv_of ?_ (by first | rfl | exact nomark _)))
  | ((with_reducible show Sb _ _ _ _ _ _ _ _ _); first
      | ((with_reducible show Sb _ _ _ _ (D.dk (iv _)) _ _ _ _); refine' Ov.sb_I (hu_of hr) (fun _ _ => rfl) ?_)
      | ((with_reducible show Sb _ _ _ _ (D.dp _) _ _ _ _); refine' Ov.sb_P (hu_of hr) (fun _ _ => rfl) ?_)
      | ((with_reducible show Sb _ _ _ _ (D.scr _) _ _ _ _); refine' Ov.sb_S rfl ?_ (fun _ _ => rfl))
      | ((with_reducible show Sb _ _ _ _ (D.lst (List.map D.int _)) _ _ _ _); refine' Ov.sb_ix (Ov.ix_li ?_) (fun _ _ => rfl))
      | ((with_reducible show Sb _ _ _ _ (D.tup (List.map D.int _)) _ _ _ _); refine' Ov.sb_ix (Ov.ix_ti ?_) (fun _ _ => rfl))
      | ((with_reducible show Sb _ _ _ _ (D.pk _ _) _ _ _ _); refine' Ov.sb_ix (Ov.ix_pk ?_) (fun _ _ => rfl))
      | ((with_reducible show Sb _ _ _ _ (D.lst _) _ _ _ _); refine' Ov.sb_ix (Ov.ix_l ?_) (fun _ _ => rfl))
      | ((with_reducible show Sb _ _ _ _ (D.tup _) _ _ _ _); refine' Ov.sb_ix (Ov.ix_t ?_) (fun _ _ => rfl)))
  | ((with_reducible show Cal _ _ _ _ _ _); first | (with_reducible refine' c_abs) | (with_reducible refine' c_lenS rfl) | (with_reducible refine' c_lenL) | (with_reducible refine' c_lenT) | (with_reducible refine' c_lenK) | (with_reducible refine' c_tupL ?_) | (with_reducible refine' c_tupT) | (with_reducible refine' c_lstL ?_) | (with_reducible refine' c_lstT ?_) | (with_reducible refine' c_intB) | (with_reducible refine' c_dict) | (with_reducible refine' c_lstK ?_) | (with_reducible refine' c_max2 ?_) | (with_reducible refine' c_min2 ?_) | (with_reducible refine' c_sum ?_) | (with_reducible refine' c_maxL ?_ ?_))
  | ((with_reducible show _ = true ∨ _ = true); first | (exact Or.inl rfl) | (exact Or.inr (ints_at _)) | (exact Or.inr rfl))
  | ((with_reducible show DO _ _ _ _ _); first | ((with_reducible refine' Ov.do_none ?_); rfl) | (with_reducible refine' Ov.do_some ?_))
  | ((with_reducible show Sli _ _ _ _ _ _ _ _); first | ((with_reducible show Sli _ _ _ (D.tup (List.map D.int _)) _ _ _ _); first | exact Ov.sl_tI rfl | exact Ov.sl_tbI) | ((with_reducible show Sli _ _ _ (D.tup _) _ _ _ _); exact Ov.sl_t rfl) | ((with_reducible show Sli _ _ _ (D.lst (List.map D.int _)) _ _ _ _); exact Ov.sl_lI) | (with_reducible refine' Ov.sl_l ?_))
  | ((with_reducible show (_ : Prop)); first | rfl | o_fieldsN))

def topS (i : Nat) : Stmt := PySem.Challenge.pw_overunder_k09_what_falls.main.body.getD i (.Pass ⟨0, 0, 0, 0⟩)
structure Tx (mg : Str → Option Value) : Prop where
  b_ValueError : mg "ValueError" = none
  b_abs : mg "abs" = none
  b_bool : mg "bool" = none
  b_dict : mg "dict" = none
  b_enumerate : mg "enumerate" = none
  b_int : mg "int" = none
  b_isinstance : mg "isinstance" = none
  b_len : mg "len" = none
  b_list : mg "list" = none
  b_max : mg "max" = none
  b_range : mg "range" = none
  b_set : mg "set" = none
  b_str : mg "str" = none
  b_tuple : mg "tuple" = none
  c_MARK : ∃ t, mg "MARK" = some (.int 0 t)
  c_MOST : ∃ t, mg "MOST" = some (.int 40 t)
local macro_rules | `(tactic| k_updF) => `(tactic| first
  | ((with_reducible show DE _ _ _ _ (Expr.Call (Expr.Name "abs" _) _ _ _) _); refine' Ov.de_callB (id := "abs") ?_ ?_ rfl T.b_abs boot_abs)
  | ((with_reducible show DE _ _ _ _ (Expr.Call (Expr.Name "dict" _) _ _ _) _); refine' Ov.de_callTy (T := "dict") ?_ ?_ rfl T.b_dict boot_dict)
  | ((with_reducible show DE _ _ _ _ (Expr.Call (Expr.Name "int" _) _ _ _) _); refine' Ov.de_callTy (T := "int") ?_ ?_ rfl T.b_int boot_int)
  | ((with_reducible show DE _ _ _ _ (Expr.Call (Expr.Name "len" _) _ _ _) _); refine' Ov.de_callB (id := "len") ?_ ?_ rfl T.b_len boot_len)
  | ((with_reducible show DE _ _ _ _ (Expr.Call (Expr.Name "list" _) _ _ _) _); refine' Ov.de_callTy (T := "list") ?_ ?_ rfl T.b_list boot_list)
  | ((with_reducible show DE _ _ _ _ (Expr.Call (Expr.Name "max" _) _ _ _) _); refine' Ov.de_callB (id := "max") ?_ ?_ rfl T.b_max boot_max)
  | ((with_reducible show DE _ _ _ _ (Expr.Call (Expr.Name "tuple" _) _ _ _) _); refine' Ov.de_callTy (T := "tuple") ?_ ?_ rfl T.b_tuple boot_tuple)
  | ((with_reducible show DE _ _ _ _ (Expr.Call (Expr.Name "isinstance" _) [_, Expr.Name "int" _] _ _) _); refine' de_isi (n := "int") ?_ ?_ (kit_int ?_) rfl T.b_isinstance rfl T.b_int rfl)
  | ((with_reducible show DE _ _ _ _ (Expr.Call (Expr.Name "isinstance" _) [_, Expr.Name "bool" _] _ _) _); refine' de_isi (n := "bool") ?_ ?_ (kit_bool ?_) rfl T.b_isinstance rfl T.b_bool rfl)
  | ((with_reducible show DE _ _ _ _ (Expr.Call (Expr.Name "isinstance" _) [_, Expr.Name "tuple" _] _ _) _); refine' de_isi (n := "tuple") ?_ ?_ (kit_tup ?_) rfl T.b_isinstance rfl T.b_tuple rfl)
  | ((with_reducible show DE _ _ _ _ (Expr.Call (Expr.Name "isinstance" _) [_, Expr.Name "list" _] _ _) _); refine' de_isi (n := "list") ?_ ?_ (kit_lst ?_) rfl T.b_isinstance rfl T.b_list rfl))
variable {P : Program} {w : World} {K : PySem.W.Frag} {mg : Str → Option Value} {base : Heap} {C : Addr} {k : Nat}
/-! ### numbered -/
abbrev s_numbered : Stmt := topS 2
theorem sc_numbered : FnScope ["row", "turns", "numbers", "passes", "found", "one"] ["row", "turns"] (defScope s_numbered) := ⟨rfl, rfl, rfl, by decide +kernel, rfl, by decide +kernel, by decide +kernel⟩
section
local macro_rules | `(tactic| kct_strs) => `(tactic| first
  | ((with_reducible show DE _ _ _ _ (Expr.Name "row" _) _); exact de_val (i := 0) rfl rfl (by kat_tups) rfl)
  | ((with_reducible show DE _ _ _ _ (Expr.Name "row" _) _); exact de_old (i := 0) rfl rfl (by kat_tups) rfl)
  | ((with_reducible show DE _ _ _ _ (Expr.Name "row" _) _); exact de_own (i := 0) rfl rfl (by kat_tups) rfl)
  | ((with_reducible show DE _ _ _ _ (Expr.Name "turns" _) _); exact de_val (i := 1) rfl rfl (by kat_tups) rfl)
  | ((with_reducible show DE _ _ _ _ (Expr.Name "turns" _) _); exact de_old (i := 1) rfl rfl (by kat_tups) rfl)
  | ((with_reducible show DE _ _ _ _ (Expr.Name "turns" _) _); exact de_own (i := 1) rfl rfl (by kat_tups) rfl)
  | ((with_reducible show DE _ _ _ _ (Expr.Name "numbers" _) _); exact de_val (i := 2) rfl rfl (by kat_tups) rfl)
  | ((with_reducible show DE _ _ _ _ (Expr.Name "numbers" _) _); exact de_old (i := 2) rfl rfl (by kat_tups) rfl)
  | ((with_reducible show DE _ _ _ _ (Expr.Name "numbers" _) _); exact de_own (i := 2) rfl rfl (by kat_tups) rfl)
  | ((with_reducible show DE _ _ _ _ (Expr.Name "passes" _) _); exact de_val (i := 3) rfl rfl (by kat_tups) rfl)
  | ((with_reducible show DE _ _ _ _ (Expr.Name "passes" _) _); exact de_old (i := 3) rfl rfl (by kat_tups) rfl)
  | ((with_reducible show DE _ _ _ _ (Expr.Name "passes" _) _); exact de_own (i := 3) rfl rfl (by kat_tups) rfl)
  | ((with_reducible show DE _ _ _ _ (Expr.Name "found" _) _); exact de_val (i := 4) rfl rfl (by kat_tups) rfl)
  | ((with_reducible show DE _ _ _ _ (Expr.Name "found" _) _); exact de_old (i := 4) rfl rfl (by kat_tups) rfl)
  | ((with_reducible show DE _ _ _ _ (Expr.Name "found" _) _); exact de_own (i := 4) rfl rfl (by kat_tups) rfl)
  | ((with_reducible show DE _ _ _ _ (Expr.Name "one" _) _); exact de_val (i := 5) rfl rfl (by kat_tups) rfl)
  | ((with_reducible show DE _ _ _ _ (Expr.Name "one" _) _); exact de_old (i := 5) rfl rfl (by kat_tups) rfl)
  | ((with_reducible show DE _ _ _ _ (Expr.Name "one" _) _); exact de_own (i := 5) rfl rfl (by kat_tups) rfl))
abbrev encNT : List Int × List Int → List D := fun a => [.tup (a.1.map .int), .tup (a.2.map .int)]
abbrev preNT : List Int × List Int → Prop := fun a => a.1.length ≤ 1000 ∧ ∀ x ∈ a.1, (iabs x).toNat < a.2.length
abbrev tfT (ts : List Int) : Int → Int := fun i => ts.getD i.toNat 0
abbrev nmbD (tf : Int → Int) (row : List Int) : D := .tup [.tup ((nmb tf row).2.1.map .int), .tup ((nmb tf row).2.2.map .int)]
abbrev outNT : List Int × List Int → Out := fun a => .ret .val (nmbD (tfT a.2) a.1)
theorem ok_numT {f : Addr} {fd : FuncData} (T : Tx mg) (F : Fun K "numbered" "numbered" s_numbered f fd) :
    FnOk P w K mg base (L2.CX P w) (k + 1) f fd ["row", "turns"] (spT K C [.val, .val] encNT preNT outNT) := by
  refine ok_of F sc_numbered rfl fun cdv A outer s H E hr Hb a hp => ?_
  obtain ⟨row, turns⟩ := a
  obtain ⟨hl, hx⟩ := hp
  have hl : row.length ≤ 1000 := hl
  have hx : ∀ x ∈ row, (iabs x).toNat < turns.length := hx
  have hu := hu_of hr
  show DSs _ _ _ [.val (.tup (row.map .int)), .val (.tup (turns.map .int)), .any, .any, .any, .any] _ _
  refine dss_seq (ds_own (i := 2) (de_dkNew rfl) sc_numbered.nd rfl (.inl rfl) (by o_fieldsN) rfl) ?_
  refine dss_seq (ds_own (i := 3) (by tb_start) sc_numbered.nd rfl (.inl rfl) (by o_fieldsN) rfl) ?_
  refine dss_seq (ds_own (i := 4) (by tb_start) sc_numbered.nd rfl (.inl rfl) (by o_fieldsN) rfl) ?_
  refine dss_cons (M := fun δ => ∃ o, δ = [.val (.tup (row.map .int)), .val (.tup (turns.map .int)), .own (.dk (iv (nmb (tfT turns) row).1)), .own (.lst ((nmb (tfT turns) row).2.1.map .int)), .own (.lst ((nmb (tfT turns) row).2.2.map .int)), o]) ?_ ?_
  · refine ds_forT (passes_of rfl) rfl (by tb_start) rfl (dg_nm (j := 5) sc_numbered.nd rfl (.inl rfl))
      (fun i δ => ∃ o, δ = [.val (.tup (row.map .int)), .val (.tup (turns.map .int)), .own (.dk (iv (nmb (tfT turns) (row.take i)).1)), .own (.lst ((nmb (tfT turns) (row.take i)).2.1.map .int)), .own (.lst ((nmb (tfT turns) (row.take i)).2.2.map .int)), o]) ⟨_, rfl⟩ ?_ ?_ ?_
    · rintro i d δ' _ ⟨o, rfl⟩
      show 5 < 6
      decide
    · rintro i d δ' hd ⟨o, rfl⟩
      rw [List.getElem?_map] at hd
      cases hri : row[i]? with
      | none => rw [hri] at hd; cases hd
      | some one =>
        rw [hri] at hd
        cases hd
        have hil : i < row.length := (List.getElem?_eq_some_iff.mp hri).1
        have hmem := hx one (List.mem_of_getElem? hri)
        have ht := getD_of (iabs_nn one) hmem
        obtain ⟨n1, n2, n3⟩ := nmb_len (tfT turns) (row.take i)
        rw [List.length_take] at n1 n2 n3
        have step := nmb_succ (tfT turns) hri
        generalize hS : nmb (tfT turns) (row.take i) = S at *
        obtain ⟨kv, ps, fo⟩ := S
        simp only at n1 n2 n3
        rw [step]
        show DSs _ _ _ [.val (.tup (row.map .int)), .val (.tup (turns.map .int)), .own (.dk (iv kv)), .own (.lst (ps.map .int)), .own (.lst (fo.map .int)), .val (.int one)] _ _
        refine dss_seq (δ' := [.val (.tup (row.map .int)), .val (.tup (turns.map .int)), .own (.dk (iv (nStep (tfT turns) (kv, ps, fo) one).1)), .own (.lst (ps.map .int)), .own (.lst ((nStep (tfT turns) (kv, ps, fo) one).2.2.map .int)), .val (.int one)]) (ds_if (by repeat' tb_rel) ?_ ?_) ?_
        · intro h
          have h0 : (dget kv (iabs one)).isSome = false := by simpa using h
          refine dss_seq (ds_putI (i := 2) hu rfl (.inl rfl) rfl (by repeat' tb_rel) (by repeat' tb_rel) (by omega) rfl) ?_
          refine dss_one (ds_app (i := 4) rfl (.inl rfl) (ds := fo.map .int) rfl (m := .val) (d := .int (tfT turns (iabs one))) (by repeat' tb_rel) rfl (by rw [List.length_map]; omega) ?_ )
          simp [nStep, h0, tfT]
        · intro h
          have h0 : (dget kv (iabs one)).isSome = true := by simpa using h
          refine dss_nil rfl ?_
          simp [nStep, h0]
        · obtain ⟨n, hn⟩ : ∃ n, dget (nStep (tfT turns) (kv, ps, fo) one).1 (iabs one) = some n := by
            show ∃ n, dget (if (dget kv (iabs one)).isSome then kv else dput kv (iabs one) (kv.length + 1)) (iabs one) = some n
            split
            · rename_i h; exact Option.isSome_iff_exists.mp h
            · exact ⟨_, dget_same _ _ _⟩
          refine dss_one (ds_app (i := 3) rfl (.inl rfl) (ds := ps.map .int) rfl (m := .val) (d := .int (if decide (0 < one) = true then n else -n)) (by repeat' tb_rel) rfl (by rw [List.length_map]; omega) ?_ )
          refine ⟨.val (.int one), ?_⟩
          have e : (nStep (tfT turns) (kv, ps, fo) one).2.1 = ps ++ [if decide (0 < one) = true then n else -n] := by
            show ps ++ [if decide (0 < one) = true then (dget (nStep (tfT turns) (kv, ps, fo) one).1 (iabs one)).getD 0 else -(dget (nStep (tfT turns) (kv, ps, fo) one).1 (iabs one)).getD 0] = _
            rw [hn]; rfl
          rw [e, List.map_append]
          rfl
    · rintro δ' ⟨o, rfl⟩
      refine ⟨o, ?_⟩
      rw [List.length_map, List.take_length]
  · rintro _ ⟨o, rfl⟩
    refine' dss_one (ds_retE (d' := nmbD (tfT turns) row) ?_ ?_ ?_ rfl)
    repeat' tb_rel
    all_goals rfl
end

/-! ### Arc -/
structure ArcF (K : PySem.W.Frag) (mg : Str → Option Value) (C : Addr) : Prop where
  A : ArcC K C
  beyond : NoAttr K C "row"
  g : mg "Arc" = some (.ref C)
abbrev s_Arc___init__ : Stmt := inClass (topS 3) 0
theorem sc_Arc___init__ : FnScope ["self", "row", "turns"] ["self", "row", "turns"] (defScope s_Arc___init__) := ⟨rfl, rfl, rfl, by decide +kernel, rfl, by decide +kernel, by decide +kernel⟩
section
local macro_rules | `(tactic| kct_strs) => `(tactic| first
  | ((with_reducible show DE _ _ _ _ (Expr.Name "self" _) _); exact de_val (i := 0) rfl rfl (by kat_tups) rfl)
  | ((with_reducible show DE _ _ _ _ (Expr.Name "self" _) _); exact de_old (i := 0) rfl rfl (by kat_tups) rfl)
  | ((with_reducible show DE _ _ _ _ (Expr.Name "self" _) _); exact de_own (i := 0) rfl rfl (by kat_tups) rfl)
  | ((with_reducible show DE _ _ _ _ (Expr.Name "row" _) _); exact de_val (i := 1) rfl rfl (by kat_tups) rfl)
  | ((with_reducible show DE _ _ _ _ (Expr.Name "row" _) _); exact de_old (i := 1) rfl rfl (by kat_tups) rfl)
  | ((with_reducible show DE _ _ _ _ (Expr.Name "row" _) _); exact de_own (i := 1) rfl rfl (by kat_tups) rfl)
  | ((with_reducible show DE _ _ _ _ (Expr.Name "turns" _) _); exact de_val (i := 2) rfl rfl (by kat_tups) rfl)
  | ((with_reducible show DE _ _ _ _ (Expr.Name "turns" _) _); exact de_old (i := 2) rfl rfl (by kat_tups) rfl)
  | ((with_reducible show DE _ _ _ _ (Expr.Name "turns" _) _); exact de_own (i := 2) rfl rfl (by kat_tups) rfl))
theorem ok_init {f : Addr} {fd : FuncData} (T : Tx mg) (A : ArcC K C) (F : Fun K "__init__" "Arc.__init__" s_Arc___init__ f fd) : FnOk P w K mg base (L2.CX P w) (k + 1) f fd ["self", "row", "turns"] (spInit C) := by
  refine F.okX sc_Arc___init__ (fun vs H Q E h => ?_) (fun cdv A' outer s H vs Q E hr h => ?_)
  · obtain ⟨x, dx, p, q, row, turns, rfl, _⟩ := h
    rfl
  · obtain ⟨x, dx, p, q, row, turns, rfl, hx, hp, hq, go⟩ := h
    refine ⟨_, pss_cons (ps_fld (pv 0) (pe_callTy call_list_of rfl T.b_list boot_list (pa_cons (pv 1) pa_nil)) rfl)
      (pss_cons (ps_fld (pv 0) (pe_callTy call_dictD rfl T.b_dict boot_dict (pa_cons (pv 2) pa_nil)) rfl)
      (pss_one (ps_fld (pv 0) (pe_callB call_len_seq rfl T.b_len boot_len (pa_cons (pe_fld (pv 0) rfl) pa_nil)) rfl))), ?_⟩
    have npx : p ≠ x := ne_of hp hx (by intro z; cases z)
    have nqx : q ≠ x := ne_of hq hx (by intro z; cases z)
    refine ⟨.ref p, rfl, p, _, rfl, .inl (SqL.of hp), fun a ha => ?_⟩
    have nax : x ≠ a := ne_of_none hx ha
    refine ⟨.ref x, rfl, x, C, dx, [], rfl, by rw [upd_ne nax]; exact hx, A.cl, A.row, (show (0 : Nat) < 1000 by decide), ?_⟩
    have nqa : q ≠ a := ne_of_none hq ha
    refine ⟨.ref q, rfl, q, _, rfl, .inl (by rw [upd_ne nqx, upd_ne nqa]; exact hq), fun b hb => ?_⟩
    have nbx : b ≠ x := fun z => by subst z; rw [upd_same] at hb; cases hb
    have nba : b ≠ a := fun z => by subst z; rw [upd_ne nbx, upd_same] at hb; cases hb
    have hb0 : H b = none := by rw [upd_ne nbx, upd_ne nba] at hb; exact hb
    refine ⟨.ref x, rfl, x, C, dx, [("row", .ref a)], rfl, by rw [upd_ne nbx.symm, upd_same]; rfl, A.cl, A.turns, (show (1 : Nat) < 1000 by decide), ?_⟩
    refine ⟨.ref x, rfl, x, C, dx, _, .ref a, rfl, upd_same, A.cl, A.row, rfl, a, row.map V.int, rfl, .inl (SqL.of ?_), ?_⟩
    · rw [upd_ne nax.symm, upd_ne nba.symm, upd_ne nax.symm, upd_same]
    · rw [List.length_map]
      refine ⟨.ref x, rfl, x, C, dx, _, rfl, upd_same, A.cl, A.old, (show (2 : Nat) < 1000 by decide), ?_⟩
      refine go a b _ ha hb0 nba.symm upd_same ?_ ?_ ?_
      · rw [upd_ne nax.symm, upd_ne nax.symm, upd_ne nba.symm, upd_ne nax.symm, upd_same]
      · rw [upd_ne nbx, upd_ne nbx, upd_same]
      · intro z h1 h2 h3
        rw [upd_ne h1, upd_ne h1, upd_ne h3, upd_ne h1, upd_ne h2]
end
abbrev s_Arc_beyond : Stmt := inClass (topS 3) 1
theorem sc_Arc_beyond : FnScope ["self", "places", "gap", "way", "at", "one", "goes", "other"] ["self", "places", "gap", "way"] (defScope s_Arc_beyond) := ⟨rfl, rfl, rfl, by decide +kernel, rfl, by decide +kernel, by decide +kernel⟩
section
local macro_rules | `(tactic| kct_strs) => `(tactic| first
  | ((with_reducible show DE _ _ _ _ (Expr.Name "self" _) _); exact de_val (i := 0) rfl rfl (by kat_tups) rfl)
  | ((with_reducible show DE _ _ _ _ (Expr.Name "self" _) _); exact de_old (i := 0) rfl rfl (by kat_tups) rfl)
  | ((with_reducible show DE _ _ _ _ (Expr.Name "self" _) _); exact de_own (i := 0) rfl rfl (by kat_tups) rfl)
  | ((with_reducible show DE _ _ _ _ (Expr.Name "places" _) _); exact de_val (i := 1) rfl rfl (by kat_tups) rfl)
  | ((with_reducible show DE _ _ _ _ (Expr.Name "places" _) _); exact de_old (i := 1) rfl rfl (by kat_tups) rfl)
  | ((with_reducible show DE _ _ _ _ (Expr.Name "places" _) _); exact de_own (i := 1) rfl rfl (by kat_tups) rfl)
  | ((with_reducible show DE _ _ _ _ (Expr.Name "gap" _) _); exact de_val (i := 2) rfl rfl (by kat_tups) rfl)
  | ((with_reducible show DE _ _ _ _ (Expr.Name "gap" _) _); exact de_old (i := 2) rfl rfl (by kat_tups) rfl)
  | ((with_reducible show DE _ _ _ _ (Expr.Name "gap" _) _); exact de_own (i := 2) rfl rfl (by kat_tups) rfl)
  | ((with_reducible show DE _ _ _ _ (Expr.Name "way" _) _); exact de_val (i := 3) rfl rfl (by kat_tups) rfl)
  | ((with_reducible show DE _ _ _ _ (Expr.Name "way" _) _); exact de_old (i := 3) rfl rfl (by kat_tups) rfl)
  | ((with_reducible show DE _ _ _ _ (Expr.Name "way" _) _); exact de_own (i := 3) rfl rfl (by kat_tups) rfl)
  | ((with_reducible show DE _ _ _ _ (Expr.Name "at" _) _); exact de_val (i := 4) rfl rfl (by kat_tups) rfl)
  | ((with_reducible show DE _ _ _ _ (Expr.Name "at" _) _); exact de_old (i := 4) rfl rfl (by kat_tups) rfl)
  | ((with_reducible show DE _ _ _ _ (Expr.Name "at" _) _); exact de_own (i := 4) rfl rfl (by kat_tups) rfl)
  | ((with_reducible show DE _ _ _ _ (Expr.Name "one" _) _); exact de_val (i := 5) rfl rfl (by kat_tups) rfl)
  | ((with_reducible show DE _ _ _ _ (Expr.Name "one" _) _); exact de_old (i := 5) rfl rfl (by kat_tups) rfl)
  | ((with_reducible show DE _ _ _ _ (Expr.Name "one" _) _); exact de_own (i := 5) rfl rfl (by kat_tups) rfl)
  | ((with_reducible show DE _ _ _ _ (Expr.Name "goes" _) _); exact de_val (i := 6) rfl rfl (by kat_tups) rfl)
  | ((with_reducible show DE _ _ _ _ (Expr.Name "goes" _) _); exact de_old (i := 6) rfl rfl (by kat_tups) rfl)
  | ((with_reducible show DE _ _ _ _ (Expr.Name "goes" _) _); exact de_own (i := 6) rfl rfl (by kat_tups) rfl)
  | ((with_reducible show DE _ _ _ _ (Expr.Name "other" _) _); exact de_val (i := 7) rfl rfl (by kat_tups) rfl)
  | ((with_reducible show DE _ _ _ _ (Expr.Name "other" _) _); exact de_old (i := 7) rfl rfl (by kat_tups) rfl)
  | ((with_reducible show DE _ _ _ _ (Expr.Name "other" _) _); exact de_own (i := 7) rfl rfl (by kat_tups) rfl))
abbrev ArcT := List Int × List (Int × Int) × Int
abbrev arcD (a : ArcT) : D := .arc a.1 a.2.1 a.2.2
abbrev pairD (h : Int × Int) : D := .tup [.int h.1, .int h.2]
/-- such a pair as a key -/
abbrev pkD (h : Int × Int) : D := .pk h.1 h.2
abbrev encBy : ArcT × List (Int × Int) × Int × Int → List D := fun a => [arcD a.1, .dk (iv a.2.1), .int a.2.2.1, .int a.2.2.2]
abbrev preBy : ArcT × List (Int × Int) × Int × Int → Prop := fun a => a.1.1.length ≤ 1000 ∧ WF a.1.1 a.1.2.1 ∧ isSide a.1.1.length a.2.2 ∧ a.2.1 = placesM a.1.1
abbrev outBy : ArcT × List (Int × Int) × Int × Int → Out := fun a => .ret .val (pkD (beyondM a.1.1 a.1.2.1 a.2.1 a.2.2))
local macro_rules | `(tactic| keq_hits) => `(tactic| first
  | ((with_reducible show DE _ _ _ _ (Expr.Attribute _ "row" _) _); refine' de_row A' ?_ rfl)
  | ((with_reducible show DE _ _ _ _ (Expr.Attribute _ "turns" _) _); refine' de_turns A' ?_ rfl)
  | ((with_reducible show DE _ _ _ _ (Expr.Name "MARK" _) _); exact de_globI' rfl rfl T.c_MARK))
theorem ok_beyond {f : Addr} {fd : FuncData} (T : Tx mg) (A' : ArcC K C) (F : Fun K "beyond" "Arc.beyond" s_Arc_beyond f fd) :
    FnOk P w K mg base (L2.CX P w) (k + 1) f fd ["self", "places", "gap", "way"] (spT K C [.bor, .bor, .val, .val] encBy preBy outBy) := by
  refine ok_of F sc_Arc_beyond rfl fun cdv A outer s H E hr Hb a hp => ?_
  obtain ⟨⟨row, tn, old⟩, pl, gap, way⟩ := a
  obtain ⟨hl, wf, ⟨h1, h2, h3⟩, hpl⟩ := hp
  have hl : row.length ≤ 1000 := hl
  have h1 : 0 ≤ gap := h1
  have h2 : gap ≤ row.length := h2
  have h3 : way = 1 ∨ way = -1 := h3
  have hpl : pl = placesM row := hpl
  have hu := hu_of hr
  have wb : (-(2 ^ 64) < way ∧ way < 2 ^ 64) := by omega
  show DSs _ _ _ [.bor (.arc row tn old), .bor (.dk (iv pl)), .val (.int gap), .val (.int way), .any, .any, .any, .any] _ (poOf (.ret .val (pkD (beyondM row tn pl (gap, way)))))
  unfold beyondM
  simp only
  generalize hat : (if way = 1 then gap else gap - 1) = at_
  have hat2 : at_ = gap ∧ way = 1 ∨ at_ = gap - 1 ∧ way = -1 := by
    rcases h3 with rfl | rfl
    · left; simpa using hat.symm
    · right; simpa using hat.symm
  refine dss_seq (ds_setE (i := 4) (d' := .int at_) (by repeat' tb_rel) (by rfl) (by (rw [← hat]; simp)) sc_Arc_beyond.nd rfl (by first | exact Or.inl rfl | exact Or.inr rfl) (by o_fieldsN) rfl) ?_
  refine dss_guard (by repeat' tb_rel) (fun h => ?_) (fun h => ?_)
  · have c1 : at_ < 0 ∨ at_ = row.length := by simpa using h
    rw [if_pos c1]
    exact dss_one (ds_ret (m := .val) (d := pkD (gap, -way)) (de_pk (m1 := .val) (m2 := .val) (by repeat' tb_rel) (by repeat' tb_rel)) rfl rfl)
  · have c1 : ¬ (at_ < 0 ∨ at_ = row.length) := by simpa using h
    rw [if_neg c1]
    have hr2 : at_.toNat < row.length := by omega
    have hone : atI row at_ = some (row.getD at_.toNat 0) := getD_of (by omega) hr2
    have hm : row.getD at_.toNat 0 ∈ row := by
      rw [List.getD_eq_getElem?_getD, List.getElem?_eq_getElem hr2]
      exact List.getElem_mem hr2
    generalize row.getD at_.toNat 0 = one at *
    refine dss_seq (ds_set (i := 5) (by repeat' tb_rel) (by rfl) sc_Arc_beyond.nd rfl (by first | exact Or.inl rfl | exact Or.inr rfl) (by o_fieldsN) rfl) ?_
    refine dss_guard (by repeat' tb_rel) (fun h => ?_) (fun h => ?_)
    · have c2 : one = 0 := by simpa using h
      rw [if_pos c2]
      exact dss_one (ds_ret (m := .val) (d := pkD (gap + way, way)) (de_pk (m1 := .val) (m2 := .val) (by repeat' tb_rel) (by repeat' tb_rel)) rfl rfl)
    · have c2 : ¬ one = 0 := by simpa using h
      rw [if_neg c2]
      obtain ⟨w1, t, ht⟩ := wf one hm c2
      obtain ⟨o, ho, hg, _⟩ := placesM_get row _ w1
      rw [← hpl] at hg
      rw [ht, hg]
      simp only [Option.getD_some]
      refine dss_seq (ds_setE (i := 6) (d' := .int (t * way)) (by repeat' tb_rel) (by rfl) (by rfl) sc_Arc_beyond.nd rfl (by first | exact Or.inl rfl | exact Or.inr rfl) (by o_fieldsN) rfl) ?_
      refine dss_seq (δ' := [.bor (.arc row tn old), .bor (.dk (iv pl)), .val (.int gap), .val (.int way), .val (.int at_), .val (.int one), .val (.int (if one < 0 then -(t * way) else t * way)), .any]) (ds_if (by repeat' tb_rel) (fun h => ?_) (fun h => ?_)) ?_
      · have c3 : one < 0 := by simpa using h
        rw [if_pos c3]
        refine dss_seq (ds_set (i := 6) (by repeat' tb_rel) (by rfl) sc_Arc_beyond.nd rfl (by first | exact Or.inl rfl | exact Or.inr rfl) (by o_fieldsN) rfl) ?_
        exact dss_nil rfl rfl
      · have c3 : ¬ one < 0 := by simpa using h
        rw [if_neg c3]
        exact dss_nil rfl rfl
      · refine dss_seq (ds_setE (i := 7) (d' := .int o) (by repeat' tb_rel) (by rfl) (by rfl) sc_Arc_beyond.nd rfl (by first | exact Or.inl rfl | exact Or.inr rfl) (by o_fieldsN) rfl) ?_
        refine dss_guard (by repeat' tb_rel) (fun h => ?_) (fun h => ?_)
        · have c4 : (if one < 0 then -(t * way) else t * way) = 1 := by simpa using h
          rw [if_pos c4]
          exact dss_one (ds_ret (m := .val) (d := pkD ((o : Int) + 1, 1)) (de_pk (m1 := .val) (m2 := .val) (by repeat' tb_rel) (by repeat' tb_rel)) rfl rfl)
        · have c4 : ¬ (if one < 0 then -(t * way) else t * way) = 1 := by simpa using h
          rw [if_neg c4]
          exact dss_one (ds_ret (m := .val) (d := pkD ((o : Int), -1)) (de_pk (m1 := .val) (m2 := .val) (by repeat' tb_rel) (by repeat' tb_rel)) rfl rfl)
end
abbrev s_Arc_sides : Stmt := inClass (topS 3) 2
theorem sc_Arc_sides : FnScope ["self", "places", "at", "found", "count", "gap", "way", "here"] ["self"] (defScope s_Arc_sides) := ⟨rfl, rfl, rfl, by decide +kernel, rfl, by decide +kernel, by decide +kernel⟩
section
local macro_rules | `(tactic| kct_strs) => `(tactic| first
  | ((with_reducible show DE _ _ _ _ (Expr.Name "self" _) _); exact de_val (i := 0) rfl rfl (by kat_tups) rfl)
  | ((with_reducible show DE _ _ _ _ (Expr.Name "self" _) _); exact de_old (i := 0) rfl rfl (by kat_tups) rfl)
  | ((with_reducible show DE _ _ _ _ (Expr.Name "self" _) _); exact de_own (i := 0) rfl rfl (by kat_tups) rfl)
  | ((with_reducible show DE _ _ _ _ (Expr.Name "places" _) _); exact de_val (i := 1) rfl rfl (by kat_tups) rfl)
  | ((with_reducible show DE _ _ _ _ (Expr.Name "places" _) _); exact de_old (i := 1) rfl rfl (by kat_tups) rfl)
  | ((with_reducible show DE _ _ _ _ (Expr.Name "places" _) _); exact de_own (i := 1) rfl rfl (by kat_tups) rfl)
  | ((with_reducible show DE _ _ _ _ (Expr.Name "at" _) _); exact de_val (i := 2) rfl rfl (by kat_tups) rfl)
  | ((with_reducible show DE _ _ _ _ (Expr.Name "at" _) _); exact de_old (i := 2) rfl rfl (by kat_tups) rfl)
  | ((with_reducible show DE _ _ _ _ (Expr.Name "at" _) _); exact de_own (i := 2) rfl rfl (by kat_tups) rfl)
  | ((with_reducible show DE _ _ _ _ (Expr.Name "found" _) _); exact de_val (i := 3) rfl rfl (by kat_tups) rfl)
  | ((with_reducible show DE _ _ _ _ (Expr.Name "found" _) _); exact de_old (i := 3) rfl rfl (by kat_tups) rfl)
  | ((with_reducible show DE _ _ _ _ (Expr.Name "found" _) _); exact de_own (i := 3) rfl rfl (by kat_tups) rfl)
  | ((with_reducible show DE _ _ _ _ (Expr.Name "count" _) _); exact de_val (i := 4) rfl rfl (by kat_tups) rfl)
  | ((with_reducible show DE _ _ _ _ (Expr.Name "count" _) _); exact de_old (i := 4) rfl rfl (by kat_tups) rfl)
  | ((with_reducible show DE _ _ _ _ (Expr.Name "count" _) _); exact de_own (i := 4) rfl rfl (by kat_tups) rfl)
  | ((with_reducible show DE _ _ _ _ (Expr.Name "gap" _) _); exact de_val (i := 5) rfl rfl (by kat_tups) rfl)
  | ((with_reducible show DE _ _ _ _ (Expr.Name "gap" _) _); exact de_old (i := 5) rfl rfl (by kat_tups) rfl)
  | ((with_reducible show DE _ _ _ _ (Expr.Name "gap" _) _); exact de_own (i := 5) rfl rfl (by kat_tups) rfl)
  | ((with_reducible show DE _ _ _ _ (Expr.Name "way" _) _); exact de_val (i := 6) rfl rfl (by kat_tups) rfl)
  | ((with_reducible show DE _ _ _ _ (Expr.Name "way" _) _); exact de_old (i := 6) rfl rfl (by kat_tups) rfl)
  | ((with_reducible show DE _ _ _ _ (Expr.Name "way" _) _); exact de_own (i := 6) rfl rfl (by kat_tups) rfl)
  | ((with_reducible show DE _ _ _ _ (Expr.Name "here" _) _); exact de_val (i := 7) rfl rfl (by kat_tups) rfl)
  | ((with_reducible show DE _ _ _ _ (Expr.Name "here" _) _); exact de_old (i := 7) rfl rfl (by kat_tups) rfl)
  | ((with_reducible show DE _ _ _ _ (Expr.Name "here" _) _); exact de_own (i := 7) rfl rfl (by kat_tups) rfl))
abbrev encSi : ArcT → List D := fun a => [arcD a]
abbrev preSi : ArcT → Prop := fun a => a.1.length ≤ 1000 ∧ WF a.1 a.2.1
abbrev outSi : ArcT → Out := fun a => .ret .val (.dp (sidesM a.1 a.2.1))
abbrev placesP (row : List Int) (n : Nat) : List (Int × Int) := (List.range n).foldl (fun acc i => dput acc (row.getD i 0) (i : Int)) []
theorem placesP_len (row : List Int) (n : Nat) : (placesP row n).length ≤ n := by
  induction n with
  | zero => exact Nat.le_refl _
  | succ n ih =>
    unfold placesP at *
    rw [List.range_succ, List.foldl_append]
    exact Nat.le_trans (dput_length _ _ _) (Nat.succ_le_succ ih)
abbrev sidesP (row : List Int) (tn : List (Int × Int)) (n : Nat) : List ((Int × Int) × Int) × Int := (List.range n).foldl (fun s (g : Nat) => [(1 : Int), -1].foldl (fun s w => sideStep (beyondM row tn (placesM row)) row.length s ((g : Int), w)) s) ([], 0)
theorem sidesP_ok {row : List Int} {tn : List (Int × Int)} (wf : WF row tn) : ∀ n, n ≤ row.length + 1 → FdOk row.length (sidesP row tn n).1 := by
  intro n
  induction n with
  | zero => intro _; exact ⟨by simp [sidesP], by simp [sidesP]⟩
  | succ n ih =>
    intro hn
    unfold sidesP
    rw [List.range_succ, List.foldl_append]
    have ok := ih (by omega)
    have s1 : isSide row.length ((n : Int), 1) := ⟨by simp only; omega, by simp only; omega, .inl rfl⟩
    have s2 : isSide row.length ((n : Int), -1) := ⟨by simp only; omega, by simp only; omega, .inr rfl⟩
    exact sideStep_ok (fun h hs => beyond_side wf hs) (sideStep_ok (fun h hs => beyond_side wf hs) ok s1) s2
local macro_rules | `(tactic| keq_hits) => `(tactic| first
  | ((with_reducible show DE _ _ _ _ (Expr.Attribute _ "row" _) _); refine' de_row A' ?_ rfl)
  | ((with_reducible show DE _ _ _ _ (Expr.Attribute _ "turns" _) _); refine' de_turns A' ?_ rfl))
theorem ok_sides {f fB : Addr} {fd fdB : FuncData} {kb : Nat} (T : Tx mg) (A' : ArcC K C) (F : Fun K "sides" "Arc.sides" s_Arc_sides f fd) (FB : FnOk P w K mg base (L2.CX P w) kb fB fdB ["self", "places", "gap", "way"] (spT K C [.bor, .bor, .val, .val] encBy preBy outBy))
    (mB : Meth K C "beyond" fB) (bB : Binds K fdB ["self", "places", "gap", "way"] []) (hkb : kb ≤ k) :
    FnOk P w K mg base (L2.CX P w) (k + 1) f fd ["self"] (spT K C [.bor] encSi preSi outSi) := by
  refine ok_of F sc_Arc_sides rfl fun cdv A outer s H E hr Hb a hp => ?_
  obtain ⟨row, tn, old⟩ := a
  obtain ⟨hl, wf⟩ := hp
  have hl : row.length ≤ 1000 := hl
  have wf : WF row tn := wf
  have hu := hu_of hr
  show DSs _ _ _ [.bor (.arc row tn old), .any, .any, .any, .any, .any, .any, .any] _ _
  refine dss_seq (ds_own (i := 1) (de_dkNew rfl) sc_Arc_sides.nd rfl (.inl rfl) (by o_fieldsN) rfl) ?_
  refine dss_cons (M := fun δ => ∃ o2, δ = [.bor (.arc row tn old), .own (.dk (iv (placesM row))), o2, .any, .any, .any, .any, .any]) ?_ ?_
  · refine ds_forR1 (n := row.length) (passes_of rfl) rfl rfl T.b_range (DE.cast (by repeat' tb_rel) (by rw [List.length_map])) (dg_nm (j := 2) sc_Arc_sides.nd rfl (.inl rfl)) (by omega)
      (fun i δ => ∃ o2, δ = [.bor (.arc row tn old), .own (.dk (iv (placesP row i))), o2, .any, .any, .any, .any, .any]) ⟨.any, rfl⟩ ?_ ?_ ?_
    · rintro i δ' ⟨o, rfl⟩
      show 2 < 8
      decide
    · rintro i δ' hi ⟨o, rfl⟩
      have hri : atI row (i : Int) = some (row.getD i 0) := getD_of (by omega) (by omega)
      have hpl := placesP_len row i
      refine dss_one (ds_putI (i := 1) (j := row.getD i 0) (n := (i : Int)) (kis := placesP row i) hu rfl (.inl rfl) rfl (by repeat' tb_rel) (by repeat' tb_rel) (by omega) ?_)
      refine ⟨.val (.int i), ?_⟩
      rw [show placesP row (i + 1) = dput (placesP row i) (row.getD i 0) (i : Int) by unfold placesP; rw [List.range_succ, List.foldl_append]; rfl]
      rfl
    · rintro δ' ⟨o, rfl⟩
      exact ⟨o, rfl⟩
  rintro _ ⟨o2, rfl⟩
  refine dss_seq (ds_own (i := 3) (de_dpNew rfl) sc_Arc_sides.nd rfl (.inl rfl) (by o_fieldsN) rfl) ?_
  refine dss_seq (ds_set (i := 4) (by repeat' tb_rel) (by rfl) sc_Arc_sides.nd rfl (by first | exact Or.inl rfl | exact Or.inr rfl) (by o_fieldsN) rfl) ?_
  refine dss_cons (M := fun δ => ∃ o2 o5 o6 o7, δ = [.bor (.arc row tn old), .own (.dk (iv (placesM row))), o2, .own (.dp (sidesM row tn)), .val (.int (sidesN row tn).2), o5, o6, o7]) ?_ ?_
  · refine ds_forR1 (n := row.length + 1) (passes_of rfl) rfl rfl T.b_range (DE.cast (by repeat' tb_rel) (by rw [List.length_map])) (dg_nm (j := 5) sc_Arc_sides.nd rfl (.inl rfl)) (by omega)
      (fun i δ => ∃ o2 o5 o6 o7, δ = [.bor (.arc row tn old), .own (.dk (iv (placesM row))), o2, .own (.dp (sidesP row tn i).1), .val (.int (sidesP row tn i).2), o5, o6, o7]) ⟨_, .any, .any, .any, rfl⟩ ?_ ?_ ?_
    · rintro i δ' ⟨_, _, _, _, rfl⟩
      show 5 < 8
      decide
    · rintro g δ' hg ⟨o2, o5, o6, o7, rfl⟩
      have hgl : g < row.length + 1 := by omega
      have ok0 := sidesP_ok wf g (by omega)
      have step : sidesP row tn (g + 1) = [(1 : Int), -1].foldl (fun s w => sideStep (beyondM row tn (placesM row)) row.length s ((g : Int), w)) (sidesP row tn g) := by
        unfold sidesP; rw [List.range_succ, List.foldl_append]; rfl
      rw [step]
      generalize sidesP row tn g = S0 at *
      -- for way in (1, -1)
      refine dss_one ?_
      refine ds_forT (ds := [.int 1, .int (-1)]) (passes_of rfl) rfl (DE.cast (by repeat' tb_rel) (by rfl)) rfl (dg_nm (j := 6) sc_Arc_sides.nd rfl (.inl rfl))
        (fun j δ => ∃ o6 o7, FdOk row.length ((([(1 : Int), -1].take j).foldl (fun s w => sideStep (beyondM row tn (placesM row)) row.length s ((g : Int), w)) S0).1) ∧ δ = [.bor (.arc row tn old), .own (.dk (iv (placesM row))), o2, .own (.dp (([(1 : Int), -1].take j).foldl (fun s w => sideStep (beyondM row tn (placesM row)) row.length s ((g : Int), w)) S0).1), .val (.int (([(1 : Int), -1].take j).foldl (fun s w => sideStep (beyondM row tn (placesM row)) row.length s ((g : Int), w)) S0).2), .val (.int g), o6, o7])
        ⟨o6, o7, ok0, rfl⟩ ?_ ?_ ?_
      · rintro j d δ' _ ⟨_, _, _, rfl⟩
        show 6 < 8
        decide
      · rintro j d δ' hd ⟨o6, o7, ok1, rfl⟩
        obtain ⟨wy, rfl, hwy, hw1⟩ : ∃ wy : Int, d = .int wy ∧ [(1 : Int), -1][j]? = some wy ∧ (wy = 1 ∨ wy = -1) := by
          match j, hd with
          | 0, hd => exact ⟨1, by simpa using hd.symm, rfl, .inl rfl⟩
          | 1, hd => exact ⟨-1, by simpa using hd.symm, rfl, .inr rfl⟩
          | j + 2, hd => simp at hd
        have st1 := foldl_take (fun s w => sideStep (beyondM row tn (placesM row)) row.length s ((g : Int), w)) S0 hwy
        rw [st1]
        generalize ([(1 : Int), -1].take j).foldl (fun s w => sideStep (beyondM row tn (placesM row)) row.length s ((g : Int), w)) S0 = S1 at *
        obtain ⟨fd, cnt⟩ := S1
        have ok1 : FdOk row.length fd := ok1
        have hsd : isSide row.length ((g : Int), wy) := ⟨by simp only; omega, by simp only; omega, hw1⟩
        show DSs _ _ _ [.bor (.arc row tn old), .own (.dk (iv (placesM row))), o2, .own (.dp fd), .val (.int cnt), .val (.int g), .val (.int wy), o7] _ _
        refine dss_seq (ds_set (i := 7) (m := .val) (d := pkD ((g : Int), wy)) (de_pk (m1 := .val) (m2 := .val) (by repeat' tb_rel) (by repeat' tb_rel)) rfl sc_Arc_sides.nd rfl (.inl rfl) (by o_fieldsN) rfl) ?_
        refine dss_one (ds_if (by repeat' tb_rel) (fun h => ?_) (fun h => ?_))
        · have h0 : (dget fd ((g : Int), wy)).isSome = false := by simpa using h
          have e1 : sideStep (beyondM row tn (placesM row)) row.length (fd, cnt) ((g : Int), wy) = ((walkM (beyondM row tn (placesM row)) cnt (2 * (row.length + 1)) fd ((g : Int), wy)).1, cnt + 1) := by
            unfold sideStep; rw [if_neg (by rw [h0]; decide)]
          rw [e1]
          refine dss_cons (M := fun δ => ∃ h7, δ = [.bor (.arc row tn old), .own (.dk (iv (placesM row))), o2, .own (.dp (walkM (beyondM row tn (placesM row)) cnt (2 * (row.length + 1)) fd ((g : Int), wy)).1), .val (.int cnt), .val (.int g), .val (.int wy), h7]) ?_ ?_
          · refine ds_while (ι := List ((Int × Int) × Int) × (Int × Int)) (passes_of rfl) rfl (fun z => [.bor (.arc row tn old), .own (.dk (iv (placesM row))), o2, .own (.dp z.1), .val (.int cnt), .val (.int g), .val (.int wy), .val (pkD z.2)])
              (fun n z => FdOk row.length z.1 ∧ isSide row.length z.2 ∧ 2 * (row.length + 1) ≤ n + z.1.length ∧ (walkM (beyondM row tn (placesM row)) cnt n z.1 z.2).1 = (walkM (beyondM row tn (placesM row)) cnt (2 * (row.length + 1)) fd ((g : Int), wy)).1)
              (2 * (row.length + 1)) (fd, ((g : Int), wy)) rfl ⟨ok1, hsd, by omega, rfl⟩ (fun z => !(dget z.1 (z.2.1, z.2.2)).isSome) ?_ ?_ ?_
            · rintro n ⟨fd', h'⟩ ⟨k1, k2, k3, k4⟩
              repeat' tb_rel
            · rintro n ⟨fd', h1, h2⟩ ⟨k1, k2, k3, k4⟩ ht
              have h0 : dget fd' (h1, h2) = none := by simpa using ht
              have k1 : FdOk row.length fd' := k1
              have k2 : isSide row.length (h1, h2) := k2
              have k3 : 2 * (row.length + 1) ≤ n + fd'.length := k3
              obtain ⟨k1', k5⟩ := k1.put k2 h0 cnt
              have k6 := k1'.len
              obtain ⟨n', rfl⟩ : ∃ n', n = n' + 1 := ⟨n - 1, by omega⟩
              refine dss_seq (ds_putP (i := 3) (j1 := h1) (j2 := h2) (n := cnt) (kps := fd') hu rfl (.inl rfl) rfl (by repeat' tb_rel) (by repeat' tb_rel) (by omega) rfl) ?_
              refine dss_one (ds_set (i := 7) (m := .val) (d := pkD (beyondM row tn (placesM row) (h1, h2))) ?_ rfl sc_Arc_sides.nd rfl (.inl rfl) (by o_fieldsN) ?_)
              · refine de_meth (l := [(.sh, .dk (iv (placesM row))), (.val, .int h1), (.val, .int h2)]) A'.cl mB FB (hr.mono hkb) bB (row := row) (turns := tn) (n := old) (by kct_strs) (fun _ _ => rfl) ?_ ((row, tn, old), placesM row, h1, h2) rfl rfl ⟨hl, wf, k2, rfl⟩ rfl
                have hx : atI ([h1, h2] : List Int) 0 = some h1 := rfl
                have hy : atI ([h1, h2] : List Int) 1 = some h2 := rfl
                refine da_cons (m := .sh) (by repeat' tb_rel) (da_cons (m := .val) (by repeat' tb_rel) (da_cons (m := .val) (by repeat' tb_rel) (da_nil rfl)))
              · refine ⟨n', (dput fd' (h1, h2) cnt, beyondM row tn (placesM row) (h1, h2)), Nat.lt_succ_self _, rfl, k1', beyond_side wf k2, by simp only; omega, ?_⟩
                rw [← k4]
                show _ = (walkM _ cnt (n' + 1) fd' (h1, h2)).1
                rw [walkM, if_neg (by rw [h0]; decide)]
            · rintro n ⟨fd', h1, h2⟩ ⟨k1, k2, k3, k4⟩ ht
              have h0 : (dget fd' (h1, h2)).isSome = true := by simpa using ht
              refine ⟨.val (pkD (h1, h2)), ?_⟩
              rw [← k4]
              cases n with
              | zero => rfl
              | succ n => rw [walkM, if_pos h0]
          · rintro _ ⟨h7, rfl⟩
            refine dss_one (ds_setE (i := 4) (d' := .int (cnt + 1)) (by repeat' tb_rel) (by rfl) (by rfl) sc_Arc_sides.nd rfl (.inl rfl) (by o_fieldsN) ?_)
            exact ⟨.val (.int wy), h7, walkM_ok (fun h hs => beyond_side wf hs) _ _ _ ok1 hsd, rfl⟩
        · have h0 : (dget fd ((g : Int), wy)).isSome = true := by simpa using h
          have e1 : sideStep (beyondM row tn (placesM row)) row.length (fd, cnt) ((g : Int), wy) = (fd, cnt) := by
            unfold sideStep; rw [if_pos h0]
          rw [e1]
          exact dss_nil rfl ⟨.val (.int wy), .val (pkD ((g : Int), wy)), ok1, rfl⟩
      · rintro δ' ⟨o6, o7, _, rfl⟩
        exact ⟨o2, .val (.int g), o6, o7, rfl⟩
    · rintro δ' ⟨o2, o5, o6, o7, rfl⟩
      exact ⟨o2, o5, o6, o7, rfl⟩
  rintro _ ⟨o2, o5, o6, o7, rfl⟩
  refine dss_frz 3 rfl ?_
  (refine' dss_one (ds_retE (d' := .dp (sidesM row tn)) ?_ ?_ ?_ rfl); (repeat' tb_rel); all_goals (first | rfl | (rfl)))
end

/-! ### drawings -/
abbrev s_is_number : Stmt := topS 13
theorem sc_is_number : FnScope ["thing"] ["thing"] (defScope s_is_number) := ⟨rfl, rfl, rfl, by decide +kernel, rfl, by decide +kernel, by decide +kernel⟩
section
local macro_rules | `(tactic| kct_strs) => `(tactic| first
  | ((with_reducible show DE _ _ _ _ (Expr.Name "thing" _) _); exact de_val (i := 0) rfl rfl (by kat_tups) rfl)
  | ((with_reducible show DE _ _ _ _ (Expr.Name "thing" _) _); exact de_old (i := 0) rfl rfl (by kat_tups) rfl)
  | ((with_reducible show DE _ _ _ _ (Expr.Name "thing" _) _); exact de_own (i := 0) rfl rfl (by kat_tups) rfl))
abbrev isNum : D → Bool
  | .int _ => true | _ => false
abbrev outNum : D → Out := fun d => .ret .val (.bl (isNum d))
theorem ok_isnum {f : Addr} {fd : FuncData} (T : Tx mg) (F : Fun K "is_number" "is_number" s_is_number f fd) :
    FnOk P w K mg base (L2.CX P w) (k + 1) f fd ["thing"] (spT K C [.bor] (fun d : D => [d]) (fun d => tyOk d = true) outNum) := by
  refine ok_of F sc_is_number rfl fun cdv A outer s H E hr Hb d hp => ?_
  show DSs _ _ _ [.bor d] _ _
  have hp : tyOk d = true := hp
  refine dss_one (ds_retE (d' := .bl (isNum d)) (m := .val) (d := .bl (isIntT d && !isBoolT d)) (by repeat' tb_rel) rfl ?_ rfl)
  cases d <;> rfl
end
abbrev s_are_passes : Stmt := topS 14
theorem sc_are_passes : FnScope ["passes", "count", "met", "one", "other"] ["passes", "count"] (defScope s_are_passes) := ⟨rfl, rfl, rfl, by decide +kernel, rfl, by decide +kernel, by decide +kernel⟩
section
local macro_rules | `(tactic| kct_strs) => `(tactic| first
  | ((with_reducible show DE _ _ _ _ (Expr.Name "passes" _) _); exact de_val (i := 0) rfl rfl (by kat_tups) rfl)
  | ((with_reducible show DE _ _ _ _ (Expr.Name "passes" _) _); exact de_old (i := 0) rfl rfl (by kat_tups) rfl)
  | ((with_reducible show DE _ _ _ _ (Expr.Name "passes" _) _); exact de_own (i := 0) rfl rfl (by kat_tups) rfl)
  | ((with_reducible show DE _ _ _ _ (Expr.Name "count" _) _); exact de_val (i := 1) rfl rfl (by kat_tups) rfl)
  | ((with_reducible show DE _ _ _ _ (Expr.Name "count" _) _); exact de_old (i := 1) rfl rfl (by kat_tups) rfl)
  | ((with_reducible show DE _ _ _ _ (Expr.Name "count" _) _); exact de_own (i := 1) rfl rfl (by kat_tups) rfl)
  | ((with_reducible show DE _ _ _ _ (Expr.Name "met" _) _); exact de_val (i := 2) rfl rfl (by kat_tups) rfl)
  | ((with_reducible show DE _ _ _ _ (Expr.Name "met" _) _); exact de_old (i := 2) rfl rfl (by kat_tups) rfl)
  | ((with_reducible show DE _ _ _ _ (Expr.Name "met" _) _); exact de_own (i := 2) rfl rfl (by kat_tups) rfl)
  | ((with_reducible show DE _ _ _ _ (Expr.Name "one" _) _); exact de_val (i := 3) rfl rfl (by kat_tups) rfl)
  | ((with_reducible show DE _ _ _ _ (Expr.Name "one" _) _); exact de_old (i := 3) rfl rfl (by kat_tups) rfl)
  | ((with_reducible show DE _ _ _ _ (Expr.Name "one" _) _); exact de_own (i := 3) rfl rfl (by kat_tups) rfl)
  | ((with_reducible show DE _ _ _ _ (Expr.Name "other" _) _); exact de_val (i := 4) rfl rfl (by kat_tups) rfl)
  | ((with_reducible show DE _ _ _ _ (Expr.Name "other" _) _); exact de_old (i := 4) rfl rfl (by kat_tups) rfl)
  | ((with_reducible show DE _ _ _ _ (Expr.Name "other" _) _); exact de_own (i := 4) rfl rfl (by kat_tups) rfl))
abbrev encPs : List D × Int → List D := fun a => [.tup a.1, .int a.2]
abbrev prePs : List D × Int → Prop := fun a => a.1.length ≤ 1000 ∧ ∀ d ∈ a.1, tyOk d = true
abbrev outPs : List D × Int → Out := fun a => .ret .val (.bl (apRun a.2 [] a.1))
theorem ok_passes {f fN : Addr} {fd fdN : FuncData} {kn : Nat} (T : Tx mg) (F : Fun K "are_passes" "are_passes" s_are_passes f fd) (FN : FnOk P w K mg base (L2.CX P w) kn fN fdN ["thing"] (spT K C [.bor] (fun d : D => [d]) (fun d => tyOk d = true) outNum))
    (gN : mg "is_number" = some (.ref fN)) (kN : PySem.W.keepIn K (.ref fN) = true) (bN : Binds K fdN ["thing"] []) (hkn : kn ≤ k) :
    FnOk P w K mg base (L2.CX P w) (k + 1) f fd ["passes", "count"] (spT K C [.bor, .val] encPs prePs outPs) := by
  refine ok_of F sc_are_passes rfl fun cdv A outer s H E hr Hb a hp => ?_
  obtain ⟨ds, count⟩ := a
  obtain ⟨hl, hty⟩ := hp
  have hl : ds.length ≤ 1000 := hl
  have hu := hu_of hr
  show DSs _ _ _ [.bor (.tup ds), .val (.int count), .any, .any, .any] _ _
  refine dss_seq (ds_own (i := 2) (by repeat' tb_rel) sc_are_passes.nd rfl (by first | exact Or.inl rfl | exact Or.inr rfl) (by o_fieldsN) rfl) ?_
  refine dss_cons (M := fun δ => ∃ (met : List Int) (o3 o4 : Sl), δ = [.bor (.tup ds), .val (.int count), .own (.lst (met.map .int)), o3, o4] ∧ apRun count [] ds = true) ?_ ?_
  · refine ds_forT (passes_of rfl) rfl (by tb_start) rfl (dg_nm (j := 3) sc_are_passes.nd rfl (.inl rfl))
      (fun i δ => ∃ (met : List Int) (o3 o4 : Sl), δ = [.bor (.tup ds), .val (.int count), .own (.lst (met.map .int)), o3, o4] ∧ met.length = i ∧ apRun count [] ds = apRun count met (ds.drop i)) ⟨[], .any, .any, rfl, rfl, rfl⟩ ?_ ?_ ?_
    · rintro i d δ' _ ⟨_, _, _, rfl, _⟩
      show 3 < 5
      decide
    · rintro i d δ' hd ⟨met, o3, o4, rfl, hlm, hrun⟩
      have hil : i < ds.length := (List.getElem?_eq_some_iff.mp hd).1
      have hdr : ds.drop i = d :: ds.drop (i + 1) := by
        rw [List.drop_eq_getElem_cons hil]
        congr 1
        exact (List.getElem?_eq_some_iff.mp hd).2
      rw [hdr] at hrun
      have htd := hty d (List.mem_of_getElem? hd)
      by_cases hn : isNum d = true
      · obtain ⟨one, rfl⟩ : ∃ one, d = .int one := by
          cases d <;> first | exact ⟨_, rfl⟩ | cases hn
        show DSs _ _ _ [.bor (.tup ds), .val (.int count), .own (.lst (met.map .int)), .val (.int one), o4] _ _
        refine dss_guard (k := (!true) || (decide (one = 0) || (decide (one ∈ met) || decide (count < iabs one)))) (DW.dt (dw_or (k1 := !true) (dt_not (dt_val (de_call FN (hr.mono hkn) rfl gN kN bN (l := [(.val, .int one)]) (da_cons (m := .val) (by kct_strs) (da_nil rfl)) (.int one) rfl rfl rfl rfl))) fun _ => ?_)) (fun h => ?_) (fun h => ?_)
        · repeat' tb_rel
        · have hf : apRun count [] ds = false := by
            rw [hrun]
            unfold apRun
            rw [if_pos (by simpa using h)]
          refine dss_one (ds_retE (d' := .bl (apRun count [] ds)) (by repeat' tb_rel) rfl (by rw [hf]) rfl)
        · have h0 : ¬ (one = 0 ∨ one ∈ met ∨ count < iabs one) := by simpa using h
          have e1 : apRun count met (.int one :: ds.drop (i + 1)) = if -one ∉ met ∧ iabs one ≠ 1 + ((dd (met.map iabs)).length : Int) then false else apRun count (met ++ [one]) (ds.drop (i + 1)) := by
            conv => lhs; unfold apRun
            rw [if_neg h0]
          rw [e1] at hrun
          have hml : (met.map iabs).length ≤ 4000 := by rw [List.length_map]; omega
          refine dss_guard (k := (!decide (-one ∈ met)) && !decide (iabs one = 1 + ((dd (met.map iabs)).length : Int))) (DW.dt (dw_and (by repeat' tb_rel) fun _ => dw_and1 ?_)) (fun h => ?_) (fun h => ?_)
          · refine dt_cm (m1 := .val) (d1 := .int (iabs one)) (m2 := .val) (d2 := .int (1 + ((dd (met.map iabs)).length : Int))) (by repeat' tb_rel) ?_ (cm_of (o_neI hr.units rfl) rfl)
            refine de_bin (m1 := .val) (d1 := .int 1) (m2 := .val) (d2 := .int ((dd (met.map iabs)).length : Int)) (by repeat' tb_rel) ?_ o_add
            refine de_lenSet (m := .fr) (ns := met.map iabs) ?_ hml rfl T.b_len rfl T.b_set
            refine DE.cast (de_lcL (m := .sh) (ns := met) (enc := D.int) (t := fun _ => true) (f := fun i => .int (iabs i)) (tg := .nm 4) (by kct_strs) (lcp_no (own := [("other", 4)]) rfl rfl sc_are_passes.nd (blkOk_by rfl) (fun _ _ _ _ _ => dg_nm sc_are_passes.nd rfl (.inl rfl)) (fun a _ => by show 4 < 5; decide) (by decide) (fun a _ _ _ _ _ _ => by repeat' tb_rel) (by omega))) ?_
            rw [List.filter_true, List.map_map]; rfl
          · have hf : apRun count [] ds = false := by
              rw [hrun, if_pos (by simpa using h)]
            refine dss_one (ds_retE (d' := .bl (apRun count [] ds)) (by repeat' tb_rel) rfl (by rw [hf]) rfl)
          · have h1 : ¬ (-one ∉ met ∧ iabs one ≠ 1 + ((dd (met.map iabs)).length : Int)) := by simpa using h
            rw [if_neg h1] at hrun
            refine dss_one (ds_app (i := 2) rfl (.inl rfl) (ds := met.map .int) rfl (m := .val) (d := .int one) (by repeat' tb_rel) rfl (by rw [List.length_map]; omega) ?_)
            exact ⟨met ++ [one], .val (.int one), o4, by rw [List.map_append]; rfl, by simp [hlm], hrun⟩
      · have hf : apRun count [] ds = false := by
          rw [hrun]
          cases d <;> first | rfl | exact absurd rfl hn
        have hn0 : isNum d = false := by simpa using hn
        refine dss_old 3 d rfl ?_
        show DSs _ _ _ [.bor (.tup ds), .val (.int count), .own (.lst (met.map .int)), .bor d, o4] _ _
        refine dss_guard (k := (!isNum d) || true) (DW.dt (dw_or (k1 := !isNum d) (k2 := true) (dt_not (dt_val (de_call FN (hr.mono hkn) rfl gN kN bN (l := [(.old, d)]) (da_cons (m := .old) (by kct_strs) (da_nil rfl)) d rfl rfl htd rfl))) fun z => ?_)) (fun h => ?_) (fun h => ?_)
        · rw [hn0] at z; cases z
        · refine dss_one (ds_retE (d' := .bl (apRun count [] ds)) (by repeat' tb_rel) rfl (by rw [hf]) rfl)
        · rw [hn0] at h; cases h
    · rintro δ' ⟨met, o3, o4, rfl, _, hrun⟩
      refine ⟨met, o3, o4, rfl, ?_⟩
      rw [hrun, List.drop_length]; rfl
  · rintro _ ⟨met, o3, o4, rfl, hrun⟩
    refine dss_one (ds_retE (d' := .bl (apRun count [] ds)) (by repeat' tb_rel) rfl (by rw [hrun]) rfl)
end
abbrev s_are_turns : Stmt := topS 15
theorem sc_are_turns : FnScope ["turns", "one"] ["turns"] (defScope s_are_turns) := ⟨rfl, rfl, rfl, by decide +kernel, rfl, by decide +kernel, by decide +kernel⟩
section
local macro_rules | `(tactic| kct_strs) => `(tactic| first
  | ((with_reducible show DE _ _ _ _ (Expr.Name "turns" _) _); exact de_val (i := 0) rfl rfl (by kat_tups) rfl)
  | ((with_reducible show DE _ _ _ _ (Expr.Name "turns" _) _); exact de_old (i := 0) rfl rfl (by kat_tups) rfl)
  | ((with_reducible show DE _ _ _ _ (Expr.Name "turns" _) _); exact de_own (i := 0) rfl rfl (by kat_tups) rfl)
  | ((with_reducible show DE _ _ _ _ (Expr.Name "one" _) _); exact de_val (i := 1) rfl rfl (by kat_tups) rfl)
  | ((with_reducible show DE _ _ _ _ (Expr.Name "one" _) _); exact de_old (i := 1) rfl rfl (by kat_tups) rfl)
  | ((with_reducible show DE _ _ _ _ (Expr.Name "one" _) _); exact de_own (i := 1) rfl rfl (by kat_tups) rfl))
abbrev outTs : List D → Out := fun a => .ret .val (.bl (atRun a))
theorem ok_turns {f fN : Addr} {fd fdN : FuncData} {kn : Nat} (T : Tx mg) (F : Fun K "are_turns" "are_turns" s_are_turns f fd) (FN : FnOk P w K mg base (L2.CX P w) kn fN fdN ["thing"] (spT K C [.bor] (fun d : D => [d]) (fun d => tyOk d = true) outNum))
    (gN : mg "is_number" = some (.ref fN)) (kN : PySem.W.keepIn K (.ref fN) = true) (bN : Binds K fdN ["thing"] []) (hkn : kn ≤ k) :
    FnOk P w K mg base (L2.CX P w) (k + 1) f fd ["turns"] (spT K C [.bor] (fun ds : List D => [.tup ds]) (fun ds => ∀ d ∈ ds, tyOk d = true) outTs) := by
  refine ok_of F sc_are_turns rfl fun cdv A outer s H E hr Hb ds hty => ?_
  have hu := hu_of hr
  show DSs _ _ _ [.bor (.tup ds), .any] _ _
  refine dss_cons (M := fun δ => ∃ (o1 : Sl), δ = [.bor (.tup ds), o1] ∧ atRun ds = true) ?_ ?_
  · refine ds_forT (passes_of rfl) rfl (by tb_start) rfl (dg_nm (j := 1) sc_are_turns.nd rfl (.inl rfl))
      (fun i δ => ∃ (o1 : Sl), δ = [.bor (.tup ds), o1] ∧ atRun ds = atRun (ds.drop i)) ⟨.any, rfl, rfl⟩ ?_ ?_ ?_
    · rintro i d δ' _ ⟨_, rfl, _⟩
      show 1 < 2
      decide
    · rintro i d δ' hd ⟨o1, rfl, hrun⟩
      have hil : i < ds.length := (List.getElem?_eq_some_iff.mp hd).1
      have hdr : ds.drop i = d :: ds.drop (i + 1) := by
        rw [List.drop_eq_getElem_cons hil]
        congr 1
        exact (List.getElem?_eq_some_iff.mp hd).2
      rw [hdr] at hrun
      have htd := hty d (List.mem_of_getElem? hd)
      by_cases hn : isNum d = true
      · obtain ⟨one, rfl⟩ : ∃ one, d = .int one := by
          cases d <;> first | exact ⟨_, rfl⟩ | cases hn
        show DSs _ _ _ [.bor (.tup ds), .val (.int one)] _ _
        have e1 : atRun (.int one :: ds.drop (i + 1)) = if iabs one ≠ 1 then false else atRun (ds.drop (i + 1)) := by
          conv => lhs; unfold atRun
        rw [e1] at hrun
        refine dss_guard (k := (!true) || (!decide (iabs one = 1))) (DW.dt (dw_or (k1 := !true) (dt_not (dt_val (de_call FN (hr.mono hkn) rfl gN kN bN (l := [(.val, .int one)]) (da_cons (m := .val) (by kct_strs) (da_nil rfl)) (.int one) rfl rfl rfl rfl))) fun _ => ?_)) (fun h => ?_) (fun h => ?_)
        · repeat' tb_rel
        · have hf : atRun ds = false := by
            rw [hrun, if_pos (by simpa using h)]
          refine dss_one (ds_retE (d' := .bl (atRun ds)) (by repeat' tb_rel) rfl (by rw [hf]) rfl)
        · rw [if_neg (by simpa using h)] at hrun
          exact dss_nil rfl ⟨_, rfl, hrun⟩
      · have hf : atRun ds = false := by
          rw [hrun]
          cases d <;> first | rfl | exact absurd rfl hn
        have hn0 : isNum d = false := by simpa using hn
        refine dss_old 1 d rfl ?_
        show DSs _ _ _ [.bor (.tup ds), .bor d] _ _
        refine dss_guard (k := (!isNum d) || true) (DW.dt (dw_or (k1 := !isNum d) (k2 := true) (dt_not (dt_val (de_call FN (hr.mono hkn) rfl gN kN bN (l := [(.old, d)]) (da_cons (m := .old) (by kct_strs) (da_nil rfl)) d rfl rfl htd rfl))) fun z => ?_)) (fun h => ?_) (fun h => ?_)
        · rw [hn0] at z; cases z
        · refine dss_one (ds_retE (d' := .bl (atRun ds)) (by repeat' tb_rel) rfl (by rw [hf]) rfl)
        · rw [hn0] at h; cases h
    · rintro δ' ⟨o1, rfl, hrun⟩
      refine ⟨o1, rfl, ?_⟩
      rw [hrun, List.drop_length]; rfl
  · rintro _ ⟨o1, rfl, hrun⟩
    refine dss_one (ds_retE (d' := .bl (atRun ds)) (by repeat' tb_rel) rfl (by rw [hrun]) rfl)
end
abbrev s_cut_open : Stmt := topS 18
theorem sc_cut_open : FnScope ["drawing", "begin", "end", "passes", "turns", "lifted", "row", "kept", "at", "one"] ["drawing", "begin", "end"] (defScope s_cut_open) := ⟨rfl, rfl, rfl, by decide +kernel, rfl, by decide +kernel, by decide +kernel⟩
section
local macro_rules | `(tactic| kct_strs) => `(tactic| first
  | ((with_reducible show DE _ _ _ _ (Expr.Name "drawing" _) _); exact de_val (i := 0) rfl rfl (by kat_tups) rfl)
  | ((with_reducible show DE _ _ _ _ (Expr.Name "drawing" _) _); exact de_old (i := 0) rfl rfl (by kat_tups) rfl)
  | ((with_reducible show DE _ _ _ _ (Expr.Name "drawing" _) _); exact de_own (i := 0) rfl rfl (by kat_tups) rfl)
  | ((with_reducible show DE _ _ _ _ (Expr.Name "begin" _) _); exact de_val (i := 1) rfl rfl (by kat_tups) rfl)
  | ((with_reducible show DE _ _ _ _ (Expr.Name "begin" _) _); exact de_old (i := 1) rfl rfl (by kat_tups) rfl)
  | ((with_reducible show DE _ _ _ _ (Expr.Name "begin" _) _); exact de_own (i := 1) rfl rfl (by kat_tups) rfl)
  | ((with_reducible show DE _ _ _ _ (Expr.Name "end" _) _); exact de_val (i := 2) rfl rfl (by kat_tups) rfl)
  | ((with_reducible show DE _ _ _ _ (Expr.Name "end" _) _); exact de_old (i := 2) rfl rfl (by kat_tups) rfl)
  | ((with_reducible show DE _ _ _ _ (Expr.Name "end" _) _); exact de_own (i := 2) rfl rfl (by kat_tups) rfl)
  | ((with_reducible show DE _ _ _ _ (Expr.Name "passes" _) _); exact de_val (i := 3) rfl rfl (by kat_tups) rfl)
  | ((with_reducible show DE _ _ _ _ (Expr.Name "passes" _) _); exact de_old (i := 3) rfl rfl (by kat_tups) rfl)
  | ((with_reducible show DE _ _ _ _ (Expr.Name "passes" _) _); exact de_own (i := 3) rfl rfl (by kat_tups) rfl)
  | ((with_reducible show DE _ _ _ _ (Expr.Name "turns" _) _); exact de_val (i := 4) rfl rfl (by kat_tups) rfl)
  | ((with_reducible show DE _ _ _ _ (Expr.Name "turns" _) _); exact de_old (i := 4) rfl rfl (by kat_tups) rfl)
  | ((with_reducible show DE _ _ _ _ (Expr.Name "turns" _) _); exact de_own (i := 4) rfl rfl (by kat_tups) rfl)
  | ((with_reducible show DE _ _ _ _ (Expr.Name "lifted" _) _); exact de_val (i := 5) rfl rfl (by kat_tups) rfl)
  | ((with_reducible show DE _ _ _ _ (Expr.Name "lifted" _) _); exact de_old (i := 5) rfl rfl (by kat_tups) rfl)
  | ((with_reducible show DE _ _ _ _ (Expr.Name "lifted" _) _); exact de_own (i := 5) rfl rfl (by kat_tups) rfl)
  | ((with_reducible show DE _ _ _ _ (Expr.Name "row" _) _); exact de_val (i := 6) rfl rfl (by kat_tups) rfl)
  | ((with_reducible show DE _ _ _ _ (Expr.Name "row" _) _); exact de_old (i := 6) rfl rfl (by kat_tups) rfl)
  | ((with_reducible show DE _ _ _ _ (Expr.Name "row" _) _); exact de_own (i := 6) rfl rfl (by kat_tups) rfl)
  | ((with_reducible show DE _ _ _ _ (Expr.Name "kept" _) _); exact de_val (i := 7) rfl rfl (by kat_tups) rfl)
  | ((with_reducible show DE _ _ _ _ (Expr.Name "kept" _) _); exact de_old (i := 7) rfl rfl (by kat_tups) rfl)
  | ((with_reducible show DE _ _ _ _ (Expr.Name "kept" _) _); exact de_own (i := 7) rfl rfl (by kat_tups) rfl)
  | ((with_reducible show DE _ _ _ _ (Expr.Name "at" _) _); exact de_val (i := 8) rfl rfl (by kat_tups) rfl)
  | ((with_reducible show DE _ _ _ _ (Expr.Name "at" _) _); exact de_old (i := 8) rfl rfl (by kat_tups) rfl)
  | ((with_reducible show DE _ _ _ _ (Expr.Name "at" _) _); exact de_own (i := 8) rfl rfl (by kat_tups) rfl)
  | ((with_reducible show DE _ _ _ _ (Expr.Name "one" _) _); exact de_val (i := 9) rfl rfl (by kat_tups) rfl)
  | ((with_reducible show DE _ _ _ _ (Expr.Name "one" _) _); exact de_old (i := 9) rfl rfl (by kat_tups) rfl)
  | ((with_reducible show DE _ _ _ _ (Expr.Name "one" _) _); exact de_own (i := 9) rfl rfl (by kat_tups) rfl))
abbrev CutT := (List Int × List Int) × Nat × Nat
abbrev encCu : CutT → List D := fun a => [drD a.1.1 a.1.2, .int a.2.1, .int a.2.2]
abbrev preCu : CutT → Prop := fun a => a.1.1.length ≤ 1000 ∧ a.1.2.length ≤ 1000
abbrev cutArc (a : CutT) : ArcT := (rowM a.1.1 a.2.1 a.2.2, keptM a.1.1 a.1.2 a.2.1 a.2.2, (rowM a.1.1 a.2.1 a.2.2).length)
abbrev outCu : CutT → Out := fun a => .ret .fr (arcD (cutArc a))
local macro_rules | `(tactic| keq_hits) => `(tactic| first
  | ((with_reducible show DE _ _ _ _ (Expr.Name "MARK" _) _); exact de_globI' rfl rfl T.c_MARK))
theorem ok_cut {f fI : Addr} {fd fdI : FuncData} {ki : Nat} (T : Tx mg) (M : Mk K C fI) (gA : mg "Arc" = some (.ref C)) (F : Fun K "cut_open" "cut_open" s_cut_open f fd) (FI : FnOk P w K mg base (L2.CX P w) ki fI fdI ["self", "row", "turns"] (spInit C)) (bI : Binds K fdI ["self", "row", "turns"] []) (hki : ki + 1 ≤ k) :
    FnOk P w K mg base (L2.CX P w) (k + 1) f fd ["drawing", "begin", "end"] (spT K C [.bor, .val, .val] encCu preCu outCu) := by
  refine ok_of F sc_cut_open rfl fun cdv A outer s H E hr Hb a hp => ?_
  obtain ⟨⟨ps, ts⟩, b, e⟩ := a
  obtain ⟨hl1, hl2⟩ := hp
  have hl1 : ps.length ≤ 1000 := hl1
  have hl2 : ts.length ≤ 1000 := hl2
  have hu := hu_of hr
  show DSs _ _ _ [.bor (drD ps ts), .val (.int b), .val (.int e), .any, .any, .any, .any, .any, .any, .any] _ _
  refine dss_seq (ds_unp (d := .tup [.tup (ps.map .int), .tup (ts.map .int)]) (tg := .pr 3 4) (by kct_strs) (dg_pr rfl sc_cut_open.nd rfl (.inl rfl) rfl (.inl rfl)) ⟨by o_fieldsN, by o_fieldsN⟩ rfl) ?_
  show DSs _ _ _ [.bor (drD ps ts), .val (.int b), .val (.int e), .bor (.tup (ps.map .int)), .bor (.tup (ts.map .int)), .any, .any, .any, .any, .any] _ _
  refine dss_seq (ds_setE (i := 5) (d' := .lst ((liftedM ps b e).map .int)) (de_lcT (m := .bor) (enc := D.int) (t := fun _ => true) (f := fun i => .int (iabs i)) (tg := .nm 9) (by repeat' tb_rel) (lcp_no (own := [("one", 9)]) rfl rfl sc_cut_open.nd (blkOk_by rfl) (fun _ _ _ _ _ => dg_nm sc_cut_open.nd rfl (.inl rfl)) (fun a _ => by show 9 < 10; decide) (by decide) (fun a _ _ _ _ _ _ => by repeat' tb_rel) (by unfold cutI; rw [List.length_take, List.length_drop]; omega))) rfl
    (by rw [List.filter_true, cutI_nn]; unfold liftedM; rw [List.map_map]; rfl) sc_cut_open.nd rfl (.inr rfl) (by o_fieldsN) rfl) ?_
  show DSs _ _ _ [.bor (drD ps ts), .val (.int b), .val (.int e), .bor (.tup (ps.map .int)), .bor (.tup (ts.map .int)), .val (.lst ((liftedM ps b e).map .int)), .any, .any, .any, .any] _ _
  generalize hlf : liftedM ps b e = lf at *
  have hrow : rowM ps b e = ((ps.drop e ++ [0]) ++ ps.take b).filter fun x => !decide (iabs x ∈ lf) := by unfold rowM; rw [hlf]
  have hkept : keptM ps ts b e = keptP ts lf ts.length := by unfold keptM; rw [hlf]
  refine dss_seq (δ' := [.bor (drD ps ts), .val (.int b), .val (.int e), .bor (.tup (ps.map .int)), .bor (.tup (ts.map .int)), .val (.lst (lf.map .int)), .val (.lst ((rowM ps b e).map .int)), .any, .any, .any]) ?_ ?_
  · refine ds_setLcT (i := 6) (m := .bor) (enc := D.int) (ns := (ps.drop e ++ [0]) ++ ps.take b) (t := fun x => !decide (iabs x ∈ lf)) (f := fun i => .int i) (tg := .nm 9) ?_ (lcp_if (own := [("one", 9)]) rfl rfl sc_cut_open.nd (blkOk_by rfl) (fun _ _ _ _ _ => dg_nm sc_cut_open.nd rfl (.inl rfl)) (fun a _ => by show 9 < 10; decide) (by decide) (fun a _ _ _ _ _ _ => by repeat' tb_rel) (fun a _ _ _ _ _ _ _ => by repeat' tb_rel) (by simp; omega)) rfl rfl (by o_fieldsN) ?_ (sw_true rfl rfl rfl rfl)
    · rw [← cutI_from, ← cutI_to]
      refine de_bin (m1 := .bor) (d1 := .tup ((cutI ps (some (e : Int)) none ++ [0]).map .int)) (m2 := .bor) ?_ (by repeat' tb_rel) (o_catTb rfl ?_)
      · refine de_bin (m1 := .bor) (d1 := .tup ((cutI ps (some (e : Int)) none).map .int)) (m2 := .val) (d2 := .tup (([0] : List Int).map .int)) (by repeat' tb_rel) ?_ (o_catTb rfl ?_)
        · exact de_tup (l := [(.val, .int 0)]) (da_cons (m := .val) (by repeat' tb_rel) (da_nil rfl)) rfl (by decide)
        · unfold cutI; simp; omega
      · unfold cutI; simp; omega
    · show [_, _, _, _, _, _, _, _, _, _] = _
      rw [hrow]
  refine dss_seq (ds_own (i := 7) (de_dkNew rfl) sc_cut_open.nd rfl (.inl rfl) (by o_fieldsN) rfl) ?_
  refine dss_cons (M := fun δ => ∃ (o : Sl), δ = [.bor (drD ps ts), .val (.int b), .val (.int e), .bor (.tup (ps.map .int)), .bor (.tup (ts.map .int)), .val (.lst (lf.map .int)), .val (.lst ((rowM ps b e).map .int)), .own (.dk (iv (keptP ts lf ts.length))), o, .any]) ?_ ?_
  · refine ds_forR1 (n := ts.length) (passes_of rfl) rfl rfl T.b_range (DE.cast (by repeat' tb_rel) (by rw [List.length_map])) (dg_nm (j := 8) sc_cut_open.nd rfl (.inl rfl)) (by omega)
      (fun i δ => ∃ (o : Sl), δ = [.bor (drD ps ts), .val (.int b), .val (.int e), .bor (.tup (ps.map .int)), .bor (.tup (ts.map .int)), .val (.lst (lf.map .int)), .val (.lst ((rowM ps b e).map .int)), .own (.dk (iv (keptP ts lf i))), o, .any]) ⟨.any, rfl⟩ ?_ ?_ ?_
    · rintro i δ' ⟨o, rfl⟩
      show 8 < 10
      decide
    · rintro i δ' hi ⟨o, rfl⟩
      have hti : atI ts (i : Int) = some (ts.getD i 0) := getD_of (by omega) (by omega)
      have hkl := keptP_len ts lf i
      show DSs _ _ _ [.bor (drD ps ts), .val (.int b), .val (.int e), .bor (.tup (ps.map .int)), .bor (.tup (ts.map .int)), .val (.lst (lf.map .int)), .val (.lst ((rowM ps b e).map .int)), .own (.dk (iv (keptP ts lf i))), .val (.int i), .any] _ _
      refine dss_one (ds_if (k := !decide ((i : Int) + 1 ∈ lf)) (by repeat' tb_rel) (fun h => ?_) (fun h => ?_))
      · have h0 : ¬ (i : Int) + 1 ∈ lf := by simpa using h
        refine dss_one (ds_putI (i := 7) (j := (i : Int) + 1) (n := ts.getD i 0) (kis := keptP ts lf i) hu rfl (.inl rfl) rfl (by repeat' tb_rel) (by repeat' tb_rel) (by omega) ?_)
        refine ⟨.val (.int i), ?_⟩
        rw [keptP_succ, if_neg h0]
        rfl
      · have h0 : (i : Int) + 1 ∈ lf := by simpa using h
        refine dss_nil rfl ⟨.val (.int i), ?_⟩
        rw [keptP_succ, if_pos h0]
    · rintro δ' ⟨o, rfl⟩
      exact ⟨o, rfl⟩
  rintro _ ⟨o, rfl⟩
  rw [← hkept]
  exact dss_one (ds_retM (de_make M FI (hr.mono hki) rfl gA bI (m1 := .val) (m2 := .sh) (by kct_strs) (by kct_strs)) rfl)
end
abbrev s_is_drawing : Stmt := topS 16
theorem sc_is_drawing : FnScope ["thing", "passes", "turns", "sides"] ["thing"] (defScope s_is_drawing) := ⟨rfl, rfl, rfl, by decide +kernel, rfl, by decide +kernel, by decide +kernel⟩
section
local macro_rules | `(tactic| kct_strs) => `(tactic| first
  | ((with_reducible show DE _ _ _ _ (Expr.Name "thing" _) _); exact de_val (i := 0) rfl rfl (by kat_tups) rfl)
  | ((with_reducible show DE _ _ _ _ (Expr.Name "thing" _) _); exact de_old (i := 0) rfl rfl (by kat_tups) rfl)
  | ((with_reducible show DE _ _ _ _ (Expr.Name "thing" _) _); exact de_own (i := 0) rfl rfl (by kat_tups) rfl)
  | ((with_reducible show DE _ _ _ _ (Expr.Name "passes" _) _); exact de_val (i := 1) rfl rfl (by kat_tups) rfl)
  | ((with_reducible show DE _ _ _ _ (Expr.Name "passes" _) _); exact de_old (i := 1) rfl rfl (by kat_tups) rfl)
  | ((with_reducible show DE _ _ _ _ (Expr.Name "passes" _) _); exact de_own (i := 1) rfl rfl (by kat_tups) rfl)
  | ((with_reducible show DE _ _ _ _ (Expr.Name "turns" _) _); exact de_val (i := 2) rfl rfl (by kat_tups) rfl)
  | ((with_reducible show DE _ _ _ _ (Expr.Name "turns" _) _); exact de_old (i := 2) rfl rfl (by kat_tups) rfl)
  | ((with_reducible show DE _ _ _ _ (Expr.Name "turns" _) _); exact de_own (i := 2) rfl rfl (by kat_tups) rfl)
  | ((with_reducible show DE _ _ _ _ (Expr.Name "sides" _) _); exact de_val (i := 3) rfl rfl (by kat_tups) rfl)
  | ((with_reducible show DE _ _ _ _ (Expr.Name "sides" _) _); exact de_old (i := 3) rfl rfl (by kat_tups) rfl)
  | ((with_reducible show DE _ _ _ _ (Expr.Name "sides" _) _); exact de_own (i := 3) rfl rfl (by kat_tups) rfl))
abbrev outDr : D → Out := fun d => .ret .val (.bl (isDrw d))
structure DrF (P : Program) (w : World) (K : PySem.W.Frag) (mg : Str → Option Value) (base : Heap) (C : Addr) (k : Nat) : Prop where
  ps : ∃ f fd kn, FnOk P w K mg base (L2.CX P w) kn f fd ["passes", "count"] (spT K C [.bor, .val] encPs prePs outPs) ∧ mg "are_passes" = some (.ref f) ∧ PySem.W.keepIn K (.ref f) = true ∧ Binds K fd ["passes", "count"] [] ∧ kn ≤ k
  ts : ∃ f fd kn, FnOk P w K mg base (L2.CX P w) kn f fd ["turns"] (spT K C [.bor] (fun ds : List D => [.tup ds]) (fun ds => ∀ d ∈ ds, tyOk d = true) outTs) ∧ mg "are_turns" = some (.ref f) ∧ PySem.W.keepIn K (.ref f) = true ∧ Binds K fd ["turns"] [] ∧ kn ≤ k
  cu : ∃ f fd kn, FnOk P w K mg base (L2.CX P w) kn f fd ["drawing", "begin", "end"] (spT K C [.bor, .val, .val] encCu preCu outCu) ∧ mg "cut_open" = some (.ref f) ∧ PySem.W.keepIn K (.ref f) = true ∧ Binds K fd ["drawing", "begin", "end"] [] ∧ kn ≤ k
  si : ∃ f fd kn, FnOk P w K mg base (L2.CX P w) kn f fd ["self"] (spT K C [.bor] encSi preSi outSi) ∧ Meth K C "sides" f ∧ Binds K fd ["self"] [] ∧ kn ≤ k
local macro_rules | `(tactic| keq_hits) => `(tactic| first
  | ((with_reducible show DE _ _ _ _ (Expr.Name "MOST" _) _); exact de_globI' rfl rfl T.c_MOST))
theorem ok_drawing {f : Addr} {fd : FuncData} (T : Tx mg) (A' : ArcC K C) (F : Fun K "is_drawing" "is_drawing" s_is_drawing f fd) (R : DrF P w K mg base C k) :
    FnOk P w K mg base (L2.CX P w) (k + 1) f fd ["thing"] (spT K C [.bor] (fun d : D => [d]) (fun d => fl 8 d = true) outDr) := by
  refine ok_of F sc_is_drawing rfl fun cdv A outer s H E hr Hb d hp => ?_
  have hp : fl 8 d = true := hp
  have hu := hu_of hr
  have hty := fl_ty hp
  obtain ⟨fP, fdP, kP, FP, gP, kPk, bP, hkP⟩ := R.ps
  obtain ⟨fT, fdT, kT, FT, gT, kTk, bT, hkT⟩ := R.ts
  obtain ⟨fC, fdC, kC, FC, gC, kCk, bC, hkC⟩ := R.cu
  obtain ⟨fS, fdS, kS, FS, mS, bS, hkS⟩ := R.si
  show DSs _ _ _ [.bor d, .any, .any, .any] _ _
  -- a tuple of two
  by_cases h2 : ¬ ∃ p t, d = .tup [p, t]
  · have hf : isDrw d = false := by
      unfold isDrw
      split
      · exact absurd ⟨_, _, rfl⟩ h2
      · rfl
    have ret : ∀ {X : Cx} {W : WX} {c : Cc} {δ : List Sl} {p1 p2 : Pos}, X.K = c.K → DSs X W c δ [.Return (some (.Constant (.bool false) 0 p1)) p2] { poOf (outDr d) with nx := fun _ => False } := fun hK => dss_one (ds_retE (d' := .bl (isDrw d)) (m := .val) (d := .bl false) (de_bl hK) rfl (by rw [hf]) rfl)
    by_cases hT : isTupT d = true
    · obtain ⟨ds, rfl⟩ : ∃ ds, d = .tup ds := by
        cases d <;> first | exact ⟨_, rfl⟩ | cases hT
      have hl : ¬ ds.length = 2 := fun z => by
        match ds, z with
        | [p, t], _ => exact h2 ⟨p, t, rfl⟩
      refine dss_guard (k := (!isTupT (.tup ds)) || (!decide ((ds.length : Int) = 2))) (DW.dt (dw_or (k1 := !isTupT (.tup ds)) (by repeat' tb_rel) fun _ => by repeat' tb_rel)) (fun h => ?_) (fun h => ?_)
      · exact ret rfl
      · have h : ds.length = 2 := by
          have : (ds.length : Int) = 2 := by simpa [isTupT] using h
          omega
        exact absurd h hl
    · have hT : isTupT d = false := by simpa using hT
      refine dss_guard (k := (!isTupT d) || true) (DW.dt (dw_or (k1 := !isTupT d) (k2 := true) (by repeat' tb_rel) fun z => ?_)) (fun h => ?_) (fun h => ?_)
      · rw [hT] at z; cases z
      · exact ret rfl
      · rw [hT] at h; cases h
  obtain ⟨p, t, rfl⟩ := Classical.not_not.mp h2
  have fp : fl 7 p = true := fl_tup hp p (by simp)
  have ft : fl 7 t = true := fl_tup hp t (by simp)
  have typ := fl_ty fp
  have tyt := fl_ty ft
  refine dss_guard (k := (!isTupT (.tup [p, t])) || (!decide ((([p, t] : List D).length : Int) = 2))) (DW.dt (dw_or (k1 := !isTupT (.tup [p, t])) (by repeat' tb_rel) fun _ => by repeat' tb_rel)) (fun h => ?_) (fun _ => ?_)
  · simp [isTupT] at h
  refine dss_seq (ds_unp (d := .tup [p, t]) (tg := .pr 1 2) (by kct_strs) (dg_pr rfl sc_is_drawing.nd rfl (.inl rfl) rfl (.inl rfl)) ⟨by o_fieldsN, by o_fieldsN⟩ rfl) ?_
  show DSs _ _ _ [.bor (.tup [p, t]), stSl .old p, stSl .old t, .any] _ _
  refine dss_old 1 p rfl ?_
  show DSs _ _ _ [.bor (.tup [p, t]), .bor p, stSl .old t, .any] _ _
  refine dss_old 2 t rfl ?_
  show DSs _ _ _ [.bor (.tup [p, t]), .bor p, .bor t, .any] _ _
  have ret : ∀ {X : Cx} {W : WX} {c : Cc} {δ : List Sl} {p1 p2 : Pos}, isDrw (.tup [p, t]) = false → X.K = c.K → DSs X W c δ [.Return (some (.Constant (.bool false) 0 p1)) p2] { poOf (outDr (.tup [p, t])) with nx := fun _ => False } := fun hf hK => dss_one (ds_retE (d' := .bl (isDrw (.tup [p, t]))) (m := .val) (d := .bl false) (de_bl hK) rfl (by rw [hf]) rfl)
  by_cases hT1 : isTupT p = false
  · have hT := hT1
    have hf : isDrw (.tup [p, t]) = false := by
      cases p <;> first | rfl | cases hT
    refine dss_guard (k := (!isTupT p) || true) (DW.dt (dw_or (k1 := !isTupT p) (k2 := true) (by repeat' tb_rel) fun z => ?_)) (fun h => ?_) (fun h => ?_)
    · rw [hT] at z; cases z
    · exact ret hf rfl
    · rw [hT] at h; cases h
  obtain ⟨ps, rfl⟩ : ∃ ds, p = .tup ds := by
    cases p <;> first | exact ⟨_, rfl⟩ | exact absurd rfl hT1
  by_cases hT2 : isTupT t = false
  · have hT := hT2
    have hf : isDrw (.tup [.tup ps, t]) = false := by
      cases t <;> first | rfl | cases hT
    refine dss_guard (k := (!isTupT (.tup ps)) || ((!isTupT t) || true)) (DW.dt (dw_or (k1 := !isTupT (.tup ps)) (by repeat' tb_rel) fun _ => dw_or (k1 := !isTupT t) (k2 := true) (by repeat' tb_rel) fun z => ?_)) (fun h => ?_) (fun h => ?_)
    · rw [hT] at z; cases z
    · exact ret hf rfl
    · rw [hT] at h; simp at h
  obtain ⟨ts, rfl⟩ : ∃ ds, t = .tup ds := by
    cases t <;> first | exact ⟨_, rfl⟩ | exact absurd rfl hT2
  have e0 : isDrw (.tup [.tup ps, .tup ts]) = (decide (ts.length ≤ 40) && (decide (ps.length = 2 * ts.length) && (apRun ts.length [] ps && (atRun ts && drwOk (intsD ps) (intsD ts))))) := rfl
  refine dss_guard (k := (!isTupT (.tup ps)) || ((!isTupT (.tup ts)) || decide ((40 : Int) < ts.length))) (DW.dt (dw_or (k1 := !isTupT (.tup ps)) (by repeat' tb_rel) fun _ => dw_or (k1 := !isTupT (.tup ts)) (by repeat' tb_rel) fun _ => by repeat' tb_rel)) (fun h => ?_) (fun h => ?_)
  · have h : (40 : Int) < ts.length := by simpa [isTupT] using h
    exact ret (by rw [e0, decide_eq_false (by omega), Bool.false_and]) rfl
  have hl40 : ts.length ≤ 40 := by
    have : ¬ (40 : Int) < ts.length := by simpa [isTupT] using h
    omega
  rw [decide_eq_true hl40, Bool.true_and] at e0
  refine dss_guard (k := (!decide ((ps.length : Int) = 2 * (ts.length : Int))) || ((!apRun ts.length [] ps) || (!atRun ts))) (DW.dt (dw_or (k1 := !decide ((ps.length : Int) = 2 * (ts.length : Int))) (by repeat' tb_rel) fun hk => ?_)) (fun h => ?_) (fun h => ?_)
  · have hl2 : ps.length = 2 * ts.length := by
      have : (ps.length : Int) = 2 * (ts.length : Int) := by simpa using hk
      omega
    refine dw_or (k1 := !apRun ts.length [] ps) (dt_not (dt_val (de_call FP (hr.mono hkP) rfl gP kPk bP (l := [(.old, .tup ps), (.val, .int (ts.length : Nat))]) (da_cons (m := .old) (by kct_strs) (da_cons (m := .val) (by repeat' tb_rel) (da_nil rfl))) (ps, (ts.length : Int)) rfl rfl ⟨by show ps.length ≤ 1000; omega, fun d hd => fl_ty (fl_tup fp d hd)⟩ rfl))) fun _ => ?_
    refine dw_or1 (dt_not (dt_val (de_call FT (hr.mono hkT) rfl gT kTk bT (l := [(.old, .tup ts)]) (da_cons (m := .old) (by kct_strs) (da_nil rfl)) ts rfl rfl (fun d hd => fl_ty (fl_tup ft d hd)) rfl)))
  · refine ret ?_ rfl
    rw [e0]
    by_cases hl2 : ps.length = 2 * ts.length
    · have hl3 : (ps.length : Int) = 2 * (ts.length : Int) := by omega
      rw [decide_eq_true hl3] at h
      cases h1 : apRun ts.length [] ps with
      | false => simp
      | true =>
        cases h2 : atRun ts with
        | false => simp
        | true => rw [h1, h2] at h; cases h
    · rw [decide_eq_false hl2]; rfl
  have hq : (ps.length : Int) = 2 * (ts.length : Int) ∧ apRun ts.length [] ps = true ∧ atRun ts = true := by simpa using h
  have hl2 : ps.length = 2 * ts.length := by omega
  rw [decide_eq_true hl2, hq.2.1, hq.2.2, Bool.true_and, Bool.true_and, Bool.true_and] at e0
  have ep := apRun_ints _ _ hq.2.1
  have et := atRun_ints _ hq.2.2
  obtain ⟨_, hq2, _⟩ := hq
  generalize intsD ps = pi at *
  generalize intsD ts = ti at *
  subst ep et
  rw [List.length_map, List.length_map] at hl2
  rw [List.length_map] at hl40 hq2
  have wf := wf_00 hq2 hl2
  have hrl : (rowM pi 0 0).length ≤ 1000 := by rw [rowM_00]; simp; omega
  refine dss_seq (ds_setE (i := 3) (m := .val) (d := .dp (sidesM (rowM pi 0 0) (keptM pi ti 0 0))) (d' := .dp (sidesM (rowM pi 0 0) (keptM pi ti 0 0))) ?_ rfl rfl sc_is_drawing.nd rfl (.inl rfl) (by o_fieldsN) rfl) ?_
  · refine de_meth0 (m1 := .fr) A'.cl mS FS (hr.mono hkS) bS (row := rowM pi 0 0) (turns := keptM pi ti 0 0) (n := (rowM pi 0 0).length) ?_ (fun _ _ => rfl) (cutArc ((pi, ti), 0, 0)) rfl ⟨hrl, wf⟩ rfl
    exact de_call FC (hr.mono hkC) rfl gC kCk bC (l := [(.old, drD pi ti), (.val, .int 0), (.val, .int 0)]) (da_cons (m := .old) (by kct_strs) (da_cons (m := .val) (by repeat' tb_rel) (da_cons (m := .val) (by repeat' tb_rel) (da_nil rfl)))) ((pi, ti), 0, 0) rfl rfl ⟨by show pi.length ≤ 1000; omega, by show ti.length ≤ 1000; omega⟩ rfl
  · refine dss_one (ds_retE (d' := .bl (isDrw (drD pi ti))) (m := .val) (d := .bl (decide (imax ((sidesM (rowM pi 0 0) (keptM pi ti 0 0)).map (·.2)) = (ti.length : Int)))) ?_ rfl ?_ rfl)
    · refine de_cm (m1 := .val) (m2 := .val) (de_maxVals (m := .val) (by kct_strs) (sides_ne _ _) rfl T.b_max rfl fun t ht => pe_bm0 PySem.F.plainAttrs_dict PySem.F.slot_dict_values PySem.F.type_dict_values mt_valsT ht) (DE.cast (d1 := .int (ti.length : Nat)) (by repeat' tb_rel) (by rw [List.length_map])) ?_
      repeat' tb_rel
    · show D.bl _ = D.bl (isDrw (.tup [.tup (pi.map .int), .tup (ti.map .int)]))
      rw [e0]; rfl
end
abbrev s_need_drawing : Stmt := topS 17
theorem sc_need_drawing : FnScope ["thing"] ["thing"] (defScope s_need_drawing) := ⟨rfl, rfl, rfl, by decide +kernel, rfl, by decide +kernel, by decide +kernel⟩
section
local macro_rules | `(tactic| kct_strs) => `(tactic| first
  | ((with_reducible show DE _ _ _ _ (Expr.Name "thing" _) _); exact de_val (i := 0) rfl rfl (by kat_tups) rfl)
  | ((with_reducible show DE _ _ _ _ (Expr.Name "thing" _) _); exact de_old (i := 0) rfl rfl (by kat_tups) rfl)
  | ((with_reducible show DE _ _ _ _ (Expr.Name "thing" _) _); exact de_own (i := 0) rfl rfl (by kat_tups) rfl))
abbrev outNe (eD : Addr) : D → Out := fun d => if isDrw d = true then .ret .val .non else .exc eD
theorem outNe_ret {eD : Addr} {d : D} {m : Mo} {e : D} (h : outNe eD d = .ret m e) : m = .val ∧ isDrw d = true := by
  have h : (if isDrw d = true then Out.ret .val .non else .exc eD) = .ret m e := h
  split at h
  · rename_i h0
    cases h; exact ⟨rfl, h0⟩
  · cases h
theorem outNe_exc {eD : Addr} {d : D} {a : Addr} (h : outNe eD d = .exc a) : a = eD ∧ isDrw d = false := by
  have h : (if isDrw d = true then Out.ret .val .non else .exc eD) = .exc a := h
  split at h
  · cases h
  · rename_i h0
    cases h; exact ⟨rfl, by simpa using h0⟩
theorem ok_need {f fD : Addr} {fd fdD : FuncData} {kd : Nat} {eD : Addr} (T : Tx mg) (F : Fun K "need_drawing" "need_drawing" s_need_drawing f fd) (xD : Xc K mg "NoDrawing" eD) (FD : FnOk P w K mg base (L2.CX P w) kd fD fdD ["thing"] (spT K C [.bor] (fun d : D => [d]) (fun d => fl 8 d = true) outDr))
    (gD : mg "is_drawing" = some (.ref fD)) (kD : PySem.W.keepIn K (.ref fD) = true) (bD : Binds K fdD ["thing"] []) (hkd : kd ≤ k) :
    FnOk P w K mg base (L2.CX P w) (k + 1) f fd ["thing"] (spT K C [.bor] (fun d : D => [d]) (fun d => fl 8 d = true) (outNe eD)) := by
  refine ok_of F sc_need_drawing rfl fun cdv A outer s H E hr Hb d hp => ?_
  have hp : fl 8 d = true := hp
  show DSs _ _ _ [.bor d] _ _
  refine dss_guard (k := !isDrw d) (dt_not (dt_val (de_call FD (hr.mono hkd) rfl gD kD bD (l := [(.old, d)]) (da_cons (m := .old) (by kct_strs) (da_nil rfl)) d rfl rfl hp rfl))) (fun h => ?_) (fun h => ?_)
  · have h0 : isDrw d = false := by simpa using h
    refine dss_one (ds_raise rfl rfl (takes_of rfl rfl rfl rfl) (pmk_own PySem.F.excBase_ValueError xD.q xD.g xD.k (raises_own xD.s xD.t) rfl) ?_)
    show outNe eD d = .exc eD
    rw [show outNe eD d = if isDrw d = true then .ret .val .non else .exc eD from rfl, h0]; rfl
  · have h0 : isDrw d = true := by simpa using h
    refine dss_nil rfl ?_
    show outNe eD d = .ret .val .non
    rw [show outNe eD d = if isDrw d = true then .ret .val .non else .exc eD from rfl, h0]; rfl
end

/-! ### the law's helpers -/
abbrev s_law_cell_at : Stmt := topS 32
theorem sc_law_cell_at : FnScope ["_law_script", "_law_k"] ["_law_script", "_law_k"] (defScope s_law_cell_at) := ⟨rfl, rfl, rfl, by decide +kernel, rfl, by decide +kernel, by decide +kernel⟩
section
local macro_rules | `(tactic| kct_strs) => `(tactic| first
  | ((with_reducible show DE _ _ _ _ (Expr.Name "_law_script" _) _); exact de_val (i := 0) rfl rfl (by kat_tups) rfl)
  | ((with_reducible show DE _ _ _ _ (Expr.Name "_law_script" _) _); exact de_old (i := 0) rfl rfl (by kat_tups) rfl)
  | ((with_reducible show DE _ _ _ _ (Expr.Name "_law_script" _) _); exact de_own (i := 0) rfl rfl (by kat_tups) rfl)
  | ((with_reducible show DE _ _ _ _ (Expr.Name "_law_k" _) _); exact de_val (i := 1) rfl rfl (by kat_tups) rfl)
  | ((with_reducible show DE _ _ _ _ (Expr.Name "_law_k" _) _); exact de_old (i := 1) rfl rfl (by kat_tups) rfl)
  | ((with_reducible show DE _ _ _ _ (Expr.Name "_law_k" _) _); exact de_own (i := 1) rfl rfl (by kat_tups) rfl))
abbrev outCe : List Int × Nat → Out := fun a => .ret .val (.int (a.1.getD a.2 0))
theorem ok_cell {f : Addr} {fd : FuncData} (T : Tx mg) (F : Fun K "_law_cell_at" "_law_cell_at" s_law_cell_at f fd) :
    FnOk P w K mg base (L2.CX P w) (k + 1) f fd ["_law_script", "_law_k"] (spT K C [.bor, .val] (fun a : List Int × Nat => [.scr a.1, .int (a.2 : Nat)]) (fun _ => True) outCe) := by
  refine ok_of F sc_law_cell_at rfl fun cdv A outer s H E hr Hb a hp => ?_
  obtain ⟨ns, j⟩ := a
  show DSs _ _ _ [.bor (.scr ns), .val (.int (j : Nat))] _ _
  refine dss_guard (k := decide ((j : Int) < ns.length)) (by repeat' tb_rel) (fun h => ?_) (fun h => ?_)
  · have h0 : j < ns.length := by
      have : (j : Int) < ns.length := by simpa using h
      omega
    have hx : atI ns (j : Int) = some (ns.getD j 0) := getD_of (by omega) h0
    refine dss_one (ds_retE (m := .val) (d := .int (ns.getD j 0)) (d' := .int (ns.getD j 0)) (by repeat' tb_rel) rfl rfl rfl)
  · have h0 : ¬ j < ns.length := by
      have : ¬ (j : Int) < ns.length := by simpa using h
      omega
    refine dss_one (ds_retE (m := .val) (d := .int 0) (d' := .int (ns.getD j 0)) (by repeat' tb_rel) rfl (by rw [List.getD_eq_getElem?_getD, List.getElem?_eq_none (by omega)]; rfl) rfl)
end
abbrev s_law_stream : Stmt := topS 33
theorem sc_law_stream : FnScope ["_law_cell", "_law_many", "_law_found", "_law_number", "_law_k"] ["_law_cell", "_law_many"] (defScope s_law_stream) := ⟨rfl, rfl, rfl, by decide +kernel, rfl, by decide +kernel, by decide +kernel⟩
section
local macro_rules | `(tactic| kct_strs) => `(tactic| first
  | ((with_reducible show DE _ _ _ _ (Expr.Name "_law_cell" _) _); exact de_val (i := 0) rfl rfl (by kat_tups) rfl)
  | ((with_reducible show DE _ _ _ _ (Expr.Name "_law_cell" _) _); exact de_old (i := 0) rfl rfl (by kat_tups) rfl)
  | ((with_reducible show DE _ _ _ _ (Expr.Name "_law_cell" _) _); exact de_own (i := 0) rfl rfl (by kat_tups) rfl)
  | ((with_reducible show DE _ _ _ _ (Expr.Name "_law_many" _) _); exact de_val (i := 1) rfl rfl (by kat_tups) rfl)
  | ((with_reducible show DE _ _ _ _ (Expr.Name "_law_many" _) _); exact de_old (i := 1) rfl rfl (by kat_tups) rfl)
  | ((with_reducible show DE _ _ _ _ (Expr.Name "_law_many" _) _); exact de_own (i := 1) rfl rfl (by kat_tups) rfl)
  | ((with_reducible show DE _ _ _ _ (Expr.Name "_law_found" _) _); exact de_val (i := 2) rfl rfl (by kat_tups) rfl)
  | ((with_reducible show DE _ _ _ _ (Expr.Name "_law_found" _) _); exact de_old (i := 2) rfl rfl (by kat_tups) rfl)
  | ((with_reducible show DE _ _ _ _ (Expr.Name "_law_found" _) _); exact de_own (i := 2) rfl rfl (by kat_tups) rfl)
  | ((with_reducible show DE _ _ _ _ (Expr.Name "_law_number" _) _); exact de_val (i := 3) rfl rfl (by kat_tups) rfl)
  | ((with_reducible show DE _ _ _ _ (Expr.Name "_law_number" _) _); exact de_old (i := 3) rfl rfl (by kat_tups) rfl)
  | ((with_reducible show DE _ _ _ _ (Expr.Name "_law_number" _) _); exact de_own (i := 3) rfl rfl (by kat_tups) rfl)
  | ((with_reducible show DE _ _ _ _ (Expr.Name "_law_k" _) _); exact de_val (i := 4) rfl rfl (by kat_tups) rfl)
  | ((with_reducible show DE _ _ _ _ (Expr.Name "_law_k" _) _); exact de_old (i := 4) rfl rfl (by kat_tups) rfl)
  | ((with_reducible show DE _ _ _ _ (Expr.Name "_law_k" _) _); exact de_own (i := 4) rfl rfl (by kat_tups) rfl))
abbrev outSt : Int × Nat → Out := fun a => .ret .val (.lst ((streamM a.1 a.2).map .int))
theorem ok_stream {f : Addr} {fd : FuncData} (T : Tx mg) (F : Fun K "_law_stream" "_law_stream" s_law_stream f fd) :
    FnOk P w K mg base (L2.CX P w) (k + 1) f fd ["_law_cell", "_law_many"] (spT K C [.val, .val] (fun a : Int × Nat => [.int a.1, .int (a.2 : Nat)]) (fun a => a.2 ≤ 1000) outSt) := by
  refine ok_of F sc_law_stream rfl fun cdv A outer s H E hr Hb a hp => ?_
  obtain ⟨cell, many⟩ := a
  have hp : many ≤ 1000 := hp
  show DSs _ _ _ [.val (.int cell), .val (.int (many : Nat)), .any, .any, .any] _ _
  refine dss_seq (ds_own (i := 2) (by repeat' tb_rel) sc_law_stream.nd rfl (by first | exact Or.inl rfl | exact Or.inr rfl) (by o_fieldsN) rfl) ?_
  refine dss_seq (ds_setE (i := 3) (m := .val) (d := .int (cell % 2147483647 + 48271)) (d' := .int (strm cell 0)) (by repeat' tb_rel) rfl rfl sc_law_stream.nd rfl (.inl rfl) (by o_fieldsN) rfl) ?_
  refine dss_cons (M := fun δ => ∃ (o3 o4 : Sl), δ = [.val (.int cell), .val (.int (many : Nat)), .own (.lst (((List.range (many + 1)).map fun i => strm cell (i + 1)).map .int)), o3, o4]) ?_ ?_
  · refine ds_forR1 (n := ((many + 1 : Nat) : Int)) (passes_of rfl) rfl rfl T.b_range (DE.cast (d := .int ((many : Int) + 1)) (by repeat' tb_rel) (by push_cast; rfl)) (dg_nm (j := 4) sc_law_stream.nd rfl (.inl rfl)) (by omega)
      (fun i δ => ∃ (o4 : Sl), δ = [.val (.int cell), .val (.int (many : Nat)), .own (.lst (((List.range i).map fun i => strm cell (i + 1)).map .int)), .val (.int (strm cell i)), o4]) ⟨.any, rfl⟩ ?_ ?_ ?_
    · rintro i δ' ⟨o, rfl⟩
      show 4 < 5
      decide
    · rintro i δ' hi ⟨o, rfl⟩
      have hb := strm_bd cell i
      have e1 : strm cell (i + 1) = (strm cell i * strm cell i + 48271 * strm cell i + (i : Int)) % 2147483647 := rfl
      have e2 : ((List.range (i + 1)).map fun i => strm cell (i + 1)) = ((List.range i).map fun i => strm cell (i + 1)) ++ [strm cell (i + 1)] := by rw [List.range_succ, List.map_append]; rfl
      rw [e2, e1]
      have hlen : (((List.range i).map fun i => strm cell (i + 1)).map D.int).length < 100000 := by simp; omega
      generalize ((List.range i).map fun i => strm cell (i + 1)) = fnd at *
      generalize strm cell i = nu at *
      show DSs _ _ _ [.val (.int cell), .val (.int (many : Nat)), .own (.lst (fnd.map .int)), .val (.int nu), .val (.int i)] _ _
      refine dss_seq (ds_setE (i := 3) (m := .val) (d := .int ((nu * nu + 48271 * nu + (i : Int)) % 2147483647)) (d' := .int ((nu * nu + 48271 * nu + (i : Int)) % 2147483647)) (by repeat' tb_rel) rfl rfl sc_law_stream.nd rfl (.inl rfl) (by o_fieldsN) rfl) ?_
      refine dss_one (ds_app (i := 2) rfl (.inl rfl) (ds := fnd.map .int) rfl (m := .val) (d := .int ((nu * nu + 48271 * nu + (i : Int)) % 2147483647)) (by repeat' tb_rel) rfl hlen ?_)
      exact ⟨.val (.int i), by rw [List.map_append]; rfl⟩
    · rintro δ' ⟨o, rfl⟩
      exact ⟨_, o, rfl⟩
  rintro _ ⟨o3, o4, rfl⟩
  refine dss_one (ds_retE (m := .fr) (d := .lst ((cutI ((List.range (many + 1)).map fun i => strm cell (i + 1)) (some ((1 : Nat) : Int)) none).map .int)) (d' := .lst ((streamM cell many).map .int)) (by repeat' tb_rel) rfl (by rw [cutI_from]; rfl) rfl)
end
abbrev s_law_numbered : Stmt := topS 34
theorem sc_law_numbered : FnScope ["_law_row", "_law_turns", "_law_order", "_law_one", "_law_passes", "_law_number"] ["_law_row", "_law_turns"] (defScope s_law_numbered) := ⟨rfl, rfl, rfl, by decide +kernel, rfl, by decide +kernel, by decide +kernel⟩
section
local macro_rules | `(tactic| kct_strs) => `(tactic| first
  | ((with_reducible show DE _ _ _ _ (Expr.Name "_law_row" _) _); exact de_val (i := 0) rfl rfl (by kat_tups) rfl)
  | ((with_reducible show DE _ _ _ _ (Expr.Name "_law_row" _) _); exact de_old (i := 0) rfl rfl (by kat_tups) rfl)
  | ((with_reducible show DE _ _ _ _ (Expr.Name "_law_row" _) _); exact de_own (i := 0) rfl rfl (by kat_tups) rfl)
  | ((with_reducible show DE _ _ _ _ (Expr.Name "_law_turns" _) _); exact de_val (i := 1) rfl rfl (by kat_tups) rfl)
  | ((with_reducible show DE _ _ _ _ (Expr.Name "_law_turns" _) _); exact de_old (i := 1) rfl rfl (by kat_tups) rfl)
  | ((with_reducible show DE _ _ _ _ (Expr.Name "_law_turns" _) _); exact de_own (i := 1) rfl rfl (by kat_tups) rfl)
  | ((with_reducible show DE _ _ _ _ (Expr.Name "_law_order" _) _); exact de_val (i := 2) rfl rfl (by kat_tups) rfl)
  | ((with_reducible show DE _ _ _ _ (Expr.Name "_law_order" _) _); exact de_old (i := 2) rfl rfl (by kat_tups) rfl)
  | ((with_reducible show DE _ _ _ _ (Expr.Name "_law_order" _) _); exact de_own (i := 2) rfl rfl (by kat_tups) rfl)
  | ((with_reducible show DE _ _ _ _ (Expr.Name "_law_one" _) _); exact de_val (i := 3) rfl rfl (by kat_tups) rfl)
  | ((with_reducible show DE _ _ _ _ (Expr.Name "_law_one" _) _); exact de_old (i := 3) rfl rfl (by kat_tups) rfl)
  | ((with_reducible show DE _ _ _ _ (Expr.Name "_law_one" _) _); exact de_own (i := 3) rfl rfl (by kat_tups) rfl)
  | ((with_reducible show DE _ _ _ _ (Expr.Name "_law_passes" _) _); exact de_val (i := 4) rfl rfl (by kat_tups) rfl)
  | ((with_reducible show DE _ _ _ _ (Expr.Name "_law_passes" _) _); exact de_old (i := 4) rfl rfl (by kat_tups) rfl)
  | ((with_reducible show DE _ _ _ _ (Expr.Name "_law_passes" _) _); exact de_own (i := 4) rfl rfl (by kat_tups) rfl)
  | ((with_reducible show DE _ _ _ _ (Expr.Name "_law_number" _) _); exact de_val (i := 5) rfl rfl (by kat_tups) rfl)
  | ((with_reducible show DE _ _ _ _ (Expr.Name "_law_number" _) _); exact de_old (i := 5) rfl rfl (by kat_tups) rfl)
  | ((with_reducible show DE _ _ _ _ (Expr.Name "_law_number" _) _); exact de_own (i := 5) rfl rfl (by kat_tups) rfl))
abbrev outLn : List Int × List Int → Out := fun a => .ret .val (.tup [.tup ((lnP a.1).map .int), .tup ((lnT (tfT a.2) a.1).map .int)])
theorem ok_lnumL {f : Addr} {fd : FuncData} (T : Tx mg) (F : Fun K "_law_numbered" "_law_numbered" s_law_numbered f fd) :
    FnOk P w K mg base (L2.CX P w) (k + 1) f fd ["_law_row", "_law_turns"] (spT K C [.val, .val] (fun a : List Int × List Int => [.lst (a.1.map .int), .lst (a.2.map .int)]) preNT outLn) := by
  refine ok_of F sc_law_numbered rfl fun cdv A outer s H E hr Hb a hp => ?_
  obtain ⟨row, turns⟩ := a
  obtain ⟨hl, hx⟩ := hp
  have hl : row.length ≤ 1000 := hl
  have hx : ∀ x ∈ row, (iabs x).toNat < turns.length := hx
  show DSs _ _ _ [.val (.lst (row.map .int)), .val (.lst (turns.map .int)), .any, .any, .any, .any] _ _
  refine dss_seq (ds_own (i := 2) (by repeat' tb_rel) sc_law_numbered.nd rfl (by first | exact Or.inl rfl | exact Or.inr rfl) (by o_fieldsN) rfl) ?_
  refine dss_cons (M := fun δ => ∃ (o : Sl), δ = [.val (.lst (row.map .int)), .val (.lst (turns.map .int)), .own (.lst ((ordM row).map .int)), o, .any, .any]) ?_ ?_
  · refine ds_forL (passes_of rfl) rfl (by tb_start) rfl (dg_nm (j := 3) sc_law_numbered.nd rfl (.inl rfl))
      (fun i δ => ∃ (o : Sl), δ = [.val (.lst (row.map .int)), .val (.lst (turns.map .int)), .own (.lst ((ordM (row.take i)).map .int)), o, .any, .any]) ⟨.any, rfl⟩ ?_ ?_ ?_
    · rintro i d δ' _ ⟨o, rfl⟩
      show 3 < 6
      decide
    · rintro i d δ' hd ⟨o, rfl⟩
      rw [List.getElem?_map] at hd
      cases hri : row[i]? with
      | none => rw [hri] at hd; cases hd
      | some one =>
        rw [hri] at hd
        cases hd
        have hsu := ordM_succ hri
        have hol := ordM_len (row.take i)
        rw [List.length_take] at hol
        rw [hsu]
        generalize ordM (row.take i) = od at *
        show DSs _ _ _ [.val (.lst (row.map .int)), .val (.lst (turns.map .int)), .own (.lst (od.map .int)), .val (.int one), .any, .any] _ _
        refine dss_one (ds_if (k := !decide (iabs one ∈ od)) (by repeat' tb_rel) (fun h => ?_) (fun h => ?_))
        · have h0 : ¬ iabs one ∈ od := by simpa using h
          refine dss_one (ds_app (i := 2) rfl (by kat_tups) (ds := od.map .int) rfl (m := .val) (d := .int (iabs one)) (by repeat' tb_rel) rfl (by rw [List.length_map]; omega) ?_)
          refine ⟨.val (.int one), ?_⟩
          rw [if_neg h0, List.map_append]
          rfl
        · have h0 : iabs one ∈ od := by simpa using h
          exact dss_nil rfl ⟨.val (.int one), by rw [if_pos h0]⟩
    · rintro δ' ⟨o, rfl⟩
      refine ⟨o, ?_⟩
      rw [List.length_map, List.take_length]
  rintro _ ⟨o, rfl⟩
  have hol := ordM_len row
  have hml : ((row.filter fun _ => true).map fun x : Int => D.int ((((ordM row).idxOf (iabs x) : Nat) + 1 : Int) * (if decide (x < 0) = true then -1 else 1))) = (lnP row).map .int := by
    rw [List.filter_true]; unfold lnP; rw [List.map_map]; rfl
  have hmt : (((ordM row).filter fun _ => true).map fun y : Int => D.int (turns.getD y.toNat 0)) = (lnT (tfT turns) (row)).map .int := by
    rw [List.filter_true]; unfold lnT; rw [List.map_map]; rfl
  refine dss_seq (δ' := [.val (.lst (row.map .int)), .val (.lst (turns.map .int)), .own (.lst ((ordM row).map .int)), o, .val (.lst ((lnP row).map .int)), .any]) (ds_setLc (i := 4) (m := .val) (enc := D.int) (ns := row) (t := fun _ => true) (f := fun x => .int ((((ordM row).idxOf (iabs x) : Nat) + 1 : Int) * (if decide (x < 0) = true then -1 else 1))) (tg := .nm 3) (by kct_strs)
    (lcp_no (own := [("_law_one", 3)]) rfl rfl sc_law_numbered.nd (blkOk_by rfl) (fun _ _ _ _ _ => dg_nm sc_law_numbered.nd rfl (.inl rfl)) (fun a _ => by show 3 < 6; decide) (by decide) (fun x hxm _ _ _ _ _ => ?_) (by omega)) rfl rfl (by o_fieldsN) (by rw [hml]; rfl) (sw_true rfl rfl rfl rfl)) ?_
  · have hmem := mem_ordM hxm
    have hpm := atI_pm (decide (x < 0))
    have hcase : (-(2 ^ 64) < (if decide (x < 0) = true then (-1 : Int) else 1) ∧ (if decide (x < 0) = true then (-1 : Int) else 1) < 2 ^ 64) := by split <;> decide
    refine de_bin (m1 := .val) (d1 := .int (((ordM row).idxOf (iabs x) : Nat) + 1)) (m2 := .val) (d2 := .int (if decide (x < 0) = true then -1 else 1)) ?_ ?_ (o_mul (.inr hcase))
    · exact de_bin (m1 := .val) (d1 := .int ((ordM row).idxOf (iabs x) : Nat)) (m2 := .val) (d2 := .int 1) (de_index (m1 := .sh) (m2 := .val) (by kct_strs) (by repeat' tb_rel) hmem) (by repeat' tb_rel) o_add
    · exact de_ix (m1 := .fr) (d1 := .lst [.int 1, .int (-1)]) (m2 := .val) (d2 := .int (if decide (x < 0) = true then 1 else 0)) (de_lst (l := [(.val, .int 1), (.val, .int (-1))]) (da_cons (m := .val) (by repeat' tb_rel) (da_cons (m := .val) (by repeat' tb_rel) (da_nil rfl))) rfl (by decide)) (by repeat' tb_rel) (ix_l hpm) (fun _ _ => rfl)
  refine dss_one (ds_retE (m := .val) (d := .tup [.tup ((lnP row).map .int), .tup ((lnT (tfT turns) row).map .int)]) (d' := .tup [.tup ((lnP row).map .int), .tup ((lnT (tfT turns) row).map .int)]) ?_ rfl rfl rfl)
  refine de_tup (l := [(.val, .tup ((lnP row).map .int)), (.val, .tup ((lnT (tfT turns) row).map .int))]) (da_cons (m := .val) (by repeat' tb_rel) (da_cons (m := .val) ?_ (da_nil rfl))) rfl (by o_fieldsN)
  rw [← hmt]
  refine de_callTy (T := "tuple") (da_cons (m := .fr) (de_lcL (m := .sh) (enc := D.int) (ns := ordM row) (t := fun _ => true) (f := fun y => .int (turns.getD y.toNat 0)) (tg := .nm 5) (by kct_strs) (lcp_no (own := [("_law_number", 5)]) rfl rfl sc_law_numbered.nd (blkOk_by rfl) (fun _ _ _ _ _ => dg_nm sc_law_numbered.nd rfl (.inl rfl)) (fun a _ => by show 5 < 6; decide) (by decide) (fun y hy _ _ _ _ _ => ?_) (by omega))) (da_nil rfl)) (c_tupL (.inl rfl)) rfl T.b_tuple boot_tuple
  obtain ⟨x, hxm, rfl⟩ := ordM_mem hy
  have hat := getD_of (iabs_nn x) (hx x hxm)
  repeat' tb_rel
theorem ok_lnumT {f : Addr} {fd : FuncData} (T : Tx mg) (F : Fun K "_law_numbered" "_law_numbered" s_law_numbered f fd) :
    FnOk P w K mg base (L2.CX P w) (k + 1) f fd ["_law_row", "_law_turns"] (spT K C [.val, .val] (fun a : List Int × List Int => [.tup (a.1.map .int), .tup (a.2.map .int)]) preNT outLn) := by
  refine ok_of F sc_law_numbered rfl fun cdv A outer s H E hr Hb a hp => ?_
  obtain ⟨row, turns⟩ := a
  obtain ⟨hl, hx⟩ := hp
  have hl : row.length ≤ 1000 := hl
  have hx : ∀ x ∈ row, (iabs x).toNat < turns.length := hx
  show DSs _ _ _ [.val (.tup (row.map .int)), .val (.tup (turns.map .int)), .any, .any, .any, .any] _ _
  refine dss_seq (ds_own (i := 2) (by repeat' tb_rel) sc_law_numbered.nd rfl (by first | exact Or.inl rfl | exact Or.inr rfl) (by o_fieldsN) rfl) ?_
  refine dss_cons (M := fun δ => ∃ (o : Sl), δ = [.val (.tup (row.map .int)), .val (.tup (turns.map .int)), .own (.lst ((ordM row).map .int)), o, .any, .any]) ?_ ?_
  · refine ds_forT (passes_of rfl) rfl (by tb_start) rfl (dg_nm (j := 3) sc_law_numbered.nd rfl (.inl rfl))
      (fun i δ => ∃ (o : Sl), δ = [.val (.tup (row.map .int)), .val (.tup (turns.map .int)), .own (.lst ((ordM (row.take i)).map .int)), o, .any, .any]) ⟨.any, rfl⟩ ?_ ?_ ?_
    · rintro i d δ' _ ⟨o, rfl⟩
      show 3 < 6
      decide
    · rintro i d δ' hd ⟨o, rfl⟩
      rw [List.getElem?_map] at hd
      cases hri : row[i]? with
      | none => rw [hri] at hd; cases hd
      | some one =>
        rw [hri] at hd
        cases hd
        have hsu := ordM_succ hri
        have hol := ordM_len (row.take i)
        rw [List.length_take] at hol
        rw [hsu]
        generalize ordM (row.take i) = od at *
        show DSs _ _ _ [.val (.tup (row.map .int)), .val (.tup (turns.map .int)), .own (.lst (od.map .int)), .val (.int one), .any, .any] _ _
        refine dss_one (ds_if (k := !decide (iabs one ∈ od)) (by repeat' tb_rel) (fun h => ?_) (fun h => ?_))
        · have h0 : ¬ iabs one ∈ od := by simpa using h
          refine dss_one (ds_app (i := 2) rfl (by kat_tups) (ds := od.map .int) rfl (m := .val) (d := .int (iabs one)) (by repeat' tb_rel) rfl (by rw [List.length_map]; omega) ?_)
          refine ⟨.val (.int one), ?_⟩
          rw [if_neg h0, List.map_append]
          rfl
        · have h0 : iabs one ∈ od := by simpa using h
          exact dss_nil rfl ⟨.val (.int one), by rw [if_pos h0]⟩
    · rintro δ' ⟨o, rfl⟩
      refine ⟨o, ?_⟩
      rw [List.length_map, List.take_length]
  rintro _ ⟨o, rfl⟩
  have hol := ordM_len row
  have hml : ((row.filter fun _ => true).map fun x : Int => D.int ((((ordM row).idxOf (iabs x) : Nat) + 1 : Int) * (if decide (x < 0) = true then -1 else 1))) = (lnP row).map .int := by
    rw [List.filter_true]; unfold lnP; rw [List.map_map]; rfl
  have hmt : (((ordM row).filter fun _ => true).map fun y : Int => D.int (turns.getD y.toNat 0)) = (lnT (tfT turns) (row)).map .int := by
    rw [List.filter_true]; unfold lnT; rw [List.map_map]; rfl
  refine dss_seq (δ' := [.val (.tup (row.map .int)), .val (.tup (turns.map .int)), .own (.lst ((ordM row).map .int)), o, .val (.lst ((lnP row).map .int)), .any]) (ds_setLcT (i := 4) (m := .val) (enc := D.int) (ns := row) (t := fun _ => true) (f := fun x => .int ((((ordM row).idxOf (iabs x) : Nat) + 1 : Int) * (if decide (x < 0) = true then -1 else 1))) (tg := .nm 3) (by kct_strs)
    (lcp_no (own := [("_law_one", 3)]) rfl rfl sc_law_numbered.nd (blkOk_by rfl) (fun _ _ _ _ _ => dg_nm sc_law_numbered.nd rfl (.inl rfl)) (fun a _ => by show 3 < 6; decide) (by decide) (fun x hxm _ _ _ _ _ => ?_) (by omega)) rfl rfl (by o_fieldsN) (by rw [hml]; rfl) (sw_true rfl rfl rfl rfl)) ?_
  · have hmem := mem_ordM hxm
    have hpm := atI_pm (decide (x < 0))
    have hcase : (-(2 ^ 64) < (if decide (x < 0) = true then (-1 : Int) else 1) ∧ (if decide (x < 0) = true then (-1 : Int) else 1) < 2 ^ 64) := by split <;> decide
    refine de_bin (m1 := .val) (d1 := .int (((ordM row).idxOf (iabs x) : Nat) + 1)) (m2 := .val) (d2 := .int (if decide (x < 0) = true then -1 else 1)) ?_ ?_ (o_mul (.inr hcase))
    · exact de_bin (m1 := .val) (d1 := .int ((ordM row).idxOf (iabs x) : Nat)) (m2 := .val) (d2 := .int 1) (de_index (m1 := .sh) (m2 := .val) (by kct_strs) (by repeat' tb_rel) hmem) (by repeat' tb_rel) o_add
    · exact de_ix (m1 := .fr) (d1 := .lst [.int 1, .int (-1)]) (m2 := .val) (d2 := .int (if decide (x < 0) = true then 1 else 0)) (de_lst (l := [(.val, .int 1), (.val, .int (-1))]) (da_cons (m := .val) (by repeat' tb_rel) (da_cons (m := .val) (by repeat' tb_rel) (da_nil rfl))) rfl (by decide)) (by repeat' tb_rel) (ix_l hpm) (fun _ _ => rfl)
  refine dss_one (ds_retE (m := .val) (d := .tup [.tup ((lnP row).map .int), .tup ((lnT (tfT turns) row).map .int)]) (d' := .tup [.tup ((lnP row).map .int), .tup ((lnT (tfT turns) row).map .int)]) ?_ rfl rfl rfl)
  refine de_tup (l := [(.val, .tup ((lnP row).map .int)), (.val, .tup ((lnT (tfT turns) row).map .int))]) (da_cons (m := .val) (by repeat' tb_rel) (da_cons (m := .val) ?_ (da_nil rfl))) rfl (by o_fieldsN)
  rw [← hmt]
  refine de_callTy (T := "tuple") (da_cons (m := .fr) (de_lcL (m := .sh) (enc := D.int) (ns := ordM row) (t := fun _ => true) (f := fun y => .int (turns.getD y.toNat 0)) (tg := .nm 5) (by kct_strs) (lcp_no (own := [("_law_number", 5)]) rfl rfl sc_law_numbered.nd (blkOk_by rfl) (fun _ _ _ _ _ => dg_nm sc_law_numbered.nd rfl (.inl rfl)) (fun a _ => by show 5 < 6; decide) (by decide) (fun y hy _ _ _ _ _ => ?_) (by omega))) (da_nil rfl)) (c_tupL (.inl rfl)) rfl T.b_tuple boot_tuple
  obtain ⟨x, hxm, rfl⟩ := ordM_mem hy
  have hat := getD_of (iabs_nn x) (hx x hxm)
  repeat' tb_rel
end
abbrev s_law_cycles : Stmt := topS 35
theorem sc_law_cycles : FnScope ["_law_strands", "_law_word", "_law_at", "_law_i", "_law_sign", "_law_heads", "_law_place", "_law_old", "_law_head"] ["_law_strands", "_law_word"] (defScope s_law_cycles) := ⟨rfl, rfl, rfl, by decide +kernel, rfl, by decide +kernel, by decide +kernel⟩
section
local macro_rules | `(tactic| kct_strs) => `(tactic| first
  | ((with_reducible show DE _ _ _ _ (Expr.Name "_law_strands" _) _); exact de_val (i := 0) rfl rfl (by kat_tups) rfl)
  | ((with_reducible show DE _ _ _ _ (Expr.Name "_law_strands" _) _); exact de_old (i := 0) rfl rfl (by kat_tups) rfl)
  | ((with_reducible show DE _ _ _ _ (Expr.Name "_law_strands" _) _); exact de_own (i := 0) rfl rfl (by kat_tups) rfl)
  | ((with_reducible show DE _ _ _ _ (Expr.Name "_law_word" _) _); exact de_val (i := 1) rfl rfl (by kat_tups) rfl)
  | ((with_reducible show DE _ _ _ _ (Expr.Name "_law_word" _) _); exact de_old (i := 1) rfl rfl (by kat_tups) rfl)
  | ((with_reducible show DE _ _ _ _ (Expr.Name "_law_word" _) _); exact de_own (i := 1) rfl rfl (by kat_tups) rfl)
  | ((with_reducible show DE _ _ _ _ (Expr.Name "_law_at" _) _); exact de_val (i := 2) rfl rfl (by kat_tups) rfl)
  | ((with_reducible show DE _ _ _ _ (Expr.Name "_law_at" _) _); exact de_old (i := 2) rfl rfl (by kat_tups) rfl)
  | ((with_reducible show DE _ _ _ _ (Expr.Name "_law_at" _) _); exact de_own (i := 2) rfl rfl (by kat_tups) rfl)
  | ((with_reducible show DE _ _ _ _ (Expr.Name "_law_i" _) _); exact de_val (i := 3) rfl rfl (by kat_tups) rfl)
  | ((with_reducible show DE _ _ _ _ (Expr.Name "_law_i" _) _); exact de_old (i := 3) rfl rfl (by kat_tups) rfl)
  | ((with_reducible show DE _ _ _ _ (Expr.Name "_law_i" _) _); exact de_own (i := 3) rfl rfl (by kat_tups) rfl)
  | ((with_reducible show DE _ _ _ _ (Expr.Name "_law_sign" _) _); exact de_val (i := 4) rfl rfl (by kat_tups) rfl)
  | ((with_reducible show DE _ _ _ _ (Expr.Name "_law_sign" _) _); exact de_old (i := 4) rfl rfl (by kat_tups) rfl)
  | ((with_reducible show DE _ _ _ _ (Expr.Name "_law_sign" _) _); exact de_own (i := 4) rfl rfl (by kat_tups) rfl)
  | ((with_reducible show DE _ _ _ _ (Expr.Name "_law_heads" _) _); exact de_val (i := 5) rfl rfl (by kat_tups) rfl)
  | ((with_reducible show DE _ _ _ _ (Expr.Name "_law_heads" _) _); exact de_old (i := 5) rfl rfl (by kat_tups) rfl)
  | ((with_reducible show DE _ _ _ _ (Expr.Name "_law_heads" _) _); exact de_own (i := 5) rfl rfl (by kat_tups) rfl)
  | ((with_reducible show DE _ _ _ _ (Expr.Name "_law_place" _) _); exact de_val (i := 6) rfl rfl (by kat_tups) rfl)
  | ((with_reducible show DE _ _ _ _ (Expr.Name "_law_place" _) _); exact de_old (i := 6) rfl rfl (by kat_tups) rfl)
  | ((with_reducible show DE _ _ _ _ (Expr.Name "_law_place" _) _); exact de_own (i := 6) rfl rfl (by kat_tups) rfl)
  | ((with_reducible show DE _ _ _ _ (Expr.Name "_law_old" _) _); exact de_val (i := 7) rfl rfl (by kat_tups) rfl)
  | ((with_reducible show DE _ _ _ _ (Expr.Name "_law_old" _) _); exact de_old (i := 7) rfl rfl (by kat_tups) rfl)
  | ((with_reducible show DE _ _ _ _ (Expr.Name "_law_old" _) _); exact de_own (i := 7) rfl rfl (by kat_tups) rfl)
  | ((with_reducible show DE _ _ _ _ (Expr.Name "_law_head" _) _); exact de_val (i := 8) rfl rfl (by kat_tups) rfl)
  | ((with_reducible show DE _ _ _ _ (Expr.Name "_law_head" _) _); exact de_old (i := 8) rfl rfl (by kat_tups) rfl)
  | ((with_reducible show DE _ _ _ _ (Expr.Name "_law_head" _) _); exact de_own (i := 8) rfl rfl (by kat_tups) rfl))
abbrev wD : Nat × Int → D := fun x => .tup [.int (x.1 : Nat), .int x.2]
abbrev wdD (w : Wd) : D := .lst (w.map wD)
abbrev encCy : Nat × Wd → List D := fun a => [.int (a.1 : Nat), wdD a.2]
abbrev preCy : Nat × Wd → Prop := fun a => a.1 ≤ 100 ∧ a.2.length ≤ 1000 ∧ WdOk a.1 a.2
abbrev outCy : Nat × Wd → Out := fun a => .ret .val (.lst ((cyclesM a.1 a.2).map .int))
theorem rgI_iota (n : Nat) : rgI 0 (n : Int) = iota n := rgI_nat n
theorem at_below {st : Nat} {l : List Int} (h : BelowOk st l) {x : Int} (h0 : 0 ≤ x) (h1 : x < st) : atI l x = some (l.getD x.toNat 0) := getD_of h0 (by rw [h.1]; omega)
theorem at_belowN {st : Nat} {l : List Int} (h : BelowOk st l) {i : Nat} (h1 : i < st) : atI l (i : Int) = some (l.getD i 0) := at_below h (by omega) (by omega)
theorem ok_cycles {f : Addr} {fd : FuncData} (T : Tx mg) (F : Fun K "_law_cycles" "_law_cycles" s_law_cycles f fd) :
    FnOk P w K mg base (L2.CX P w) (k + 1) f fd ["_law_strands", "_law_word"] (spT K C [.val, .bor] encCy preCy outCy) := by
  refine ok_of F sc_law_cycles rfl fun cdv A outer s H E hr Hb a hp => ?_
  obtain ⟨st, wd⟩ := a
  obtain ⟨hst, hwl, hw⟩ := hp
  have hst : st ≤ 100 := hst
  have hw : WdOk st wd := hw
  show DSs _ _ _ [.val (.int (st : Nat)), .bor (wdD wd), .any, .any, .any, .any, .any, .any, .any] _ _
  refine dss_seq (ds_setE (i := 2) (m := .fr) (d := .lst ((rgI 0 (st : Int)).map .int)) (d' := .lst ((iota st).map .int)) (de_listR1 (m := .val) (by repeat' tb_rel) (by omega) rfl T.b_list rfl T.b_range) rfl (by rw [rgI_iota]) sc_law_cycles.nd rfl (.inl rfl) (by o_fieldsN) rfl) ?_
  refine dss_cons (M := fun δ => ∃ (o3 o4 : Sl), δ = [.val (.int (st : Nat)), .bor (wdD wd), .val (.lst ((permM st wd).map .int)), o3, o4, .any, .any, .any, .any]) ?_ ?_
  · refine ds_forL (passes_of rfl) rfl (by tb_start) rfl (dg_pr rfl sc_law_cycles.nd (i := 3) (j := 4) rfl (.inl rfl) rfl (.inl rfl))
      (fun i δ => ∃ (o3 o4 : Sl), δ = [.val (.int (st : Nat)), .bor (wdD wd), .val (.lst ((permM st (wd.take i)).map .int)), o3, o4, .any, .any, .any, .any]) ⟨.any, .any, rfl⟩ ?_ ?_ ?_
    · rintro i d δ' hd ⟨o3, o4, rfl⟩
      rw [List.getElem?_map] at hd
      cases hri : wd[i]? with
      | none => rw [hri] at hd; cases hd
      | some x =>
        rw [hri] at hd
        cases hd
        exact ⟨by o_fieldsN, by o_fieldsN⟩
    · rintro i d δ' hd ⟨o3, o4, rfl⟩
      rw [List.getElem?_map] at hd
      cases hri : wd[i]? with
      | none => rw [hri] at hd; cases hd
      | some x =>
        rw [hri] at hd
        cases hd
        obtain ⟨j, sg⟩ := x
        have hj : j + 1 < st := (hw _ (List.mem_of_getElem? hri)).1
        have hok : BelowOk st (permM st (wd.take i)) := permM_ok fun y hy => hw y (List.mem_of_mem_take hy)
        rw [permM_take hri]
        generalize permM st (wd.take i) = at_ at *
        have a1 : atI at_ ((j : Int) + 1) = some (at_.getD (j + 1) 0) := at_belowN hok hj
        have a0 : atI at_ (j : Int) = some (at_.getD j 0) := at_belowN hok (by omega)
        show DSs _ _ _ [.val (.int (st : Nat)), .bor (wdD wd), .val (.lst (at_.map .int)), .val (.int (j : Nat)), .val (.int sg), .any, .any, .any, .any] _ _
        refine dss_one (ds_setE (i := 2) (m := .fr) (d := .lst (((cutI at_ none (some (j : Int)) ++ [at_.getD (j + 1) 0, at_.getD j 0]) ++ cutI at_ (some ((j + 2 : Nat) : Int)) none).map .int)) (d' := .lst ((swapM at_ j).map .int)) ?_ rfl (by rw [cutI_to, cutI_from]; rfl) sc_law_cycles.nd rfl (.inl rfl) (by o_fieldsN) ⟨_, _, rfl⟩)
        have hl := hok.1
        refine de_bin (m1 := .fr) (d1 := .lst ((cutI at_ none (some (j : Int)) ++ [at_.getD (j + 1) 0, at_.getD j 0]).map .int)) (m2 := .fr) (d2 := .lst ((cutI at_ (some ((j + 2 : Nat) : Int)) none).map .int)) ?_ ?_ (o_catI (by rw [cutI_to, cutI_from]; simp; omega))
        · refine de_bin (m1 := .fr) (d1 := .lst ((cutI at_ none (some (j : Int))).map .int)) (m2 := .fr) (d2 := .lst (([at_.getD (j + 1) 0, at_.getD j 0] : List Int).map .int)) (by repeat' tb_rel) ?_ (o_catI (by rw [cutI_to]; simp; omega))
          exact de_lst (l := [(.val, .int (at_.getD (j + 1) 0)), (.val, .int (at_.getD j 0))]) (da_cons (m := .val) (by repeat' tb_rel) (da_cons (m := .val) (by repeat' tb_rel) (da_nil rfl))) rfl (by o_fieldsN)
        · repeat' tb_rel
    · rintro δ' ⟨o3, o4, rfl⟩
      refine ⟨o3, o4, ?_⟩
      rw [List.length_map, List.take_length]
  rintro _ ⟨o3, o4, rfl⟩
  refine dss_seq (ds_setE (i := 5) (m := .fr) (d := .lst ((rgI 0 (st : Int)).map .int)) (d' := .lst ((iota st).map .int)) (de_listR1 (m := .val) (by repeat' tb_rel) (by omega) rfl T.b_list rfl T.b_range) rfl (by rw [rgI_iota]) sc_law_cycles.nd rfl (.inr rfl) (by o_fieldsN) rfl) ?_
  have hperm := permM_ok hw
  refine dss_cons (M := fun δ => ∃ (o6 o7 : Sl), δ = [.val (.int (st : Nat)), .bor (wdD wd), .val (.lst ((permM st wd).map .int)), o3, o4, .val (.lst ((cyclesM st wd).map .int)), o6, o7, .any]) ?_ ?_
  · refine ds_forR1 (n := (st : Nat)) (passes_of rfl) rfl rfl T.b_range (by repeat' tb_rel) (dg_nm (j := 6) sc_law_cycles.nd rfl (.inr rfl)) (by omega)
      (fun i δ => ∃ (o6 o7 : Sl), δ = [.val (.int (st : Nat)), .bor (wdD wd), .val (.lst ((permM st wd).map .int)), o3, o4, .val (.lst (((List.range i).foldl (headStep (permM st wd)) (iota st)).map .int)), o6, o7, .any]) ⟨.any, .any, rfl⟩ ?_ ?_ ?_
    · rintro i δ' ⟨o6, o7, rfl⟩
      show 6 < 9
      decide
    · rintro i δ' hi ⟨o6, o7, rfl⟩
      have hi : i < st := by omega
      have hok := cyclesP_ok (st := st) (w := wd) i (by omega)
      rw [List.range_succ, List.foldl_append]
      generalize (List.range i).foldl (headStep (permM st wd)) (iota st) = hs at *
      generalize permM st wd = at_ at *
      show DSs _ _ _ [.val (.int (st : Nat)), .bor (wdD wd), .val (.lst (at_.map .int)), o3, o4, .val (.lst (hs.map .int)), .val (.int i), o7, .any] _ _
      have a0 : atI at_ (i : Int) = some (at_.getD i 0) := at_belowN hperm hi
      have hb := hperm.2 _ (getD_mem (l := at_) (i := i) (by rw [hperm.1]; exact hi))
      have a1 : atI hs (at_.getD i 0) = some (hs.getD (at_.getD i 0).toNat 0) := at_below hok hb.1 hb.2
      have a2 : atI hs (i : Int) = some (hs.getD i 0) := at_belowN hok hi
      have hlen := hok.1
      have e1 : ((hs.filter fun _ => true).map fun h : Int => D.int (if decide (h = hs.getD (at_.getD i 0).toNat 0) = true then hs.getD i 0 else h)) = (headStep at_ hs i).map .int := by
        rw [List.filter_true]; unfold headStep; rw [List.map_map]; rfl
      refine dss_seq (ds_setE (i := 7) (m := .val) (d := .int (hs.getD (at_.getD i 0).toNat 0)) (d' := .int (hs.getD (at_.getD i 0).toNat 0)) (by repeat' tb_rel) rfl rfl sc_law_cycles.nd rfl (.inr rfl) (by o_fieldsN) rfl) ?_
      refine dss_one (ds_setE (i := 5) (m := .fr) (d := .lst ((hs.filter fun _ => true).map fun h : Int => D.int (if decide (h = hs.getD (at_.getD i 0).toNat 0) = true then hs.getD i 0 else h))) (d' := .lst ((headStep at_ hs i).map .int)) (de_lcL (m := .val) (enc := D.int) (tg := .nm 8) (by kct_strs) (lcp_no (own := [("_law_head", 8)]) rfl rfl sc_law_cycles.nd (blkOk_by rfl) (fun _ _ _ _ _ => dg_nm sc_law_cycles.nd rfl (.inl rfl)) (fun a _ => by show 8 < 9; decide) (by decide) (fun a _ _ _ _ _ _ => by repeat' tb_rel) (by omega))) rfl (by rw [e1]) sc_law_cycles.nd rfl (.inr rfl) (by o_fieldsN) ?_)
      exact ⟨.val (.int i), .val (.int (hs.getD (at_.getD i 0).toNat 0)), rfl⟩
    · rintro δ' ⟨o6, o7, rfl⟩
      exact ⟨o6, o7, rfl⟩
  rintro _ ⟨o6, o7, rfl⟩
  refine dss_one (ds_retE (m := .val) (d := .lst ((cyclesM st wd).map .int)) (d' := .lst ((cyclesM st wd).map .int)) (by repeat' tb_rel) rfl rfl rfl)
end
abbrev s_law_braid : Stmt := topS 36
theorem sc_law_braid : FnScope ["_law_x", "_law_most", "_law_xs", "_law_strands", "_law_word", "_law_k", "_law_heads"] ["_law_x", "_law_most"] (defScope s_law_braid) := ⟨rfl, rfl, rfl, by decide +kernel, rfl, by decide +kernel, by decide +kernel⟩
section
local macro_rules | `(tactic| kct_strs) => `(tactic| first
  | ((with_reducible show DE _ _ _ _ (Expr.Name "_law_x" _) _); exact de_val (i := 0) rfl rfl (by kat_tups) rfl)
  | ((with_reducible show DE _ _ _ _ (Expr.Name "_law_x" _) _); exact de_old (i := 0) rfl rfl (by kat_tups) rfl)
  | ((with_reducible show DE _ _ _ _ (Expr.Name "_law_x" _) _); exact de_own (i := 0) rfl rfl (by kat_tups) rfl)
  | ((with_reducible show DE _ _ _ _ (Expr.Name "_law_most" _) _); exact de_val (i := 1) rfl rfl (by kat_tups) rfl)
  | ((with_reducible show DE _ _ _ _ (Expr.Name "_law_most" _) _); exact de_old (i := 1) rfl rfl (by kat_tups) rfl)
  | ((with_reducible show DE _ _ _ _ (Expr.Name "_law_most" _) _); exact de_own (i := 1) rfl rfl (by kat_tups) rfl)
  | ((with_reducible show DE _ _ _ _ (Expr.Name "_law_xs" _) _); exact de_val (i := 2) rfl rfl (by kat_tups) rfl)
  | ((with_reducible show DE _ _ _ _ (Expr.Name "_law_xs" _) _); exact de_old (i := 2) rfl rfl (by kat_tups) rfl)
  | ((with_reducible show DE _ _ _ _ (Expr.Name "_law_xs" _) _); exact de_own (i := 2) rfl rfl (by kat_tups) rfl)
  | ((with_reducible show DE _ _ _ _ (Expr.Name "_law_strands" _) _); exact de_val (i := 3) rfl rfl (by kat_tups) rfl)
  | ((with_reducible show DE _ _ _ _ (Expr.Name "_law_strands" _) _); exact de_old (i := 3) rfl rfl (by kat_tups) rfl)
  | ((with_reducible show DE _ _ _ _ (Expr.Name "_law_strands" _) _); exact de_own (i := 3) rfl rfl (by kat_tups) rfl)
  | ((with_reducible show DE _ _ _ _ (Expr.Name "_law_word" _) _); exact de_val (i := 4) rfl rfl (by kat_tups) rfl)
  | ((with_reducible show DE _ _ _ _ (Expr.Name "_law_word" _) _); exact de_old (i := 4) rfl rfl (by kat_tups) rfl)
  | ((with_reducible show DE _ _ _ _ (Expr.Name "_law_word" _) _); exact de_own (i := 4) rfl rfl (by kat_tups) rfl)
  | ((with_reducible show DE _ _ _ _ (Expr.Name "_law_k" _) _); exact de_val (i := 5) rfl rfl (by kat_tups) rfl)
  | ((with_reducible show DE _ _ _ _ (Expr.Name "_law_k" _) _); exact de_old (i := 5) rfl rfl (by kat_tups) rfl)
  | ((with_reducible show DE _ _ _ _ (Expr.Name "_law_k" _) _); exact de_own (i := 5) rfl rfl (by kat_tups) rfl)
  | ((with_reducible show DE _ _ _ _ (Expr.Name "_law_heads" _) _); exact de_val (i := 6) rfl rfl (by kat_tups) rfl)
  | ((with_reducible show DE _ _ _ _ (Expr.Name "_law_heads" _) _); exact de_old (i := 6) rfl rfl (by kat_tups) rfl)
  | ((with_reducible show DE _ _ _ _ (Expr.Name "_law_heads" _) _); exact de_own (i := 6) rfl rfl (by kat_tups) rfl))
abbrev outBr : Int × Nat → Out := fun a => .ret .val (.tup [.int ((braidM a.1 a.2).1 : Nat), wdD (braidM a.1 a.2).2])
theorem ok_braid {f fS fC : Addr} {fd fdS fdC : FuncData} {kS kC : Nat} (T : Tx mg) (F : Fun K "_law_braid" "_law_braid" s_law_braid f fd)
    (FS : FnOk P w K mg base (L2.CX P w) kS fS fdS ["_law_cell", "_law_many"] (spT K C [.val, .val] (fun a : Int × Nat => [.int a.1, .int (a.2 : Nat)]) (fun a => a.2 ≤ 1000) outSt)) (gS : mg "_law_stream" = some (.ref fS)) (kSk : PySem.W.keepIn K (.ref fS) = true) (bS : Binds K fdS ["_law_cell", "_law_many"] []) (hkS : kS ≤ k)
    (FC : FnOk P w K mg base (L2.CX P w) kC fC fdC ["_law_strands", "_law_word"] (spT K C [.val, .bor] encCy preCy outCy)) (gC : mg "_law_cycles" = some (.ref fC)) (kCk : PySem.W.keepIn K (.ref fC) = true) (bC : Binds K fdC ["_law_strands", "_law_word"] []) (hkC : kC ≤ k) :
    FnOk P w K mg base (L2.CX P w) (k + 1) f fd ["_law_x", "_law_most"] (spT K C [.val, .val] (fun a : Int × Nat => [.int a.1, .int (a.2 : Nat)]) (fun a => a.2 ≤ 100) outBr) := by
  refine ok_of F sc_law_braid rfl fun cdv A outer s H E hr Hb a hp => ?_
  obtain ⟨x, most⟩ := a
  have hp : most ≤ 100 := hp
  show DSs _ _ _ [.val (.int x), .val (.int (most : Nat)), .any, .any, .any, .any, .any] _ (poOf (.ret .val (.tup [.int ((nStr (streamM x (2 + most)) : Nat) : Int), wdD (braidW (streamM x (2 + most)) most)])))
  have hxl := streamM_len x (2 + most)
  have hxb := @streamM_nn x (2 + most)
  refine dss_seq (ds_set (i := 2) (m := .val) (d := .lst ((streamM x (2 + most)).map .int)) (de_call FS (hr.mono hkS) rfl gS kSk bS (l := [(.val, .int x), (.val, .int ((2 + most : Nat) : Int))]) (da_cons (m := .val) (by repeat' tb_rel) (da_cons (m := .val) (DE.cast (d := .int (2 + (most : Int))) (by repeat' tb_rel) (by push_cast; rfl)) (da_nil rfl))) (x, 2 + most) rfl rfl (by show 2 + most ≤ 1000; omega) rfl) rfl sc_law_braid.nd rfl (.inl rfl) (by o_fieldsN) rfl) ?_
  show DSs _ _ _ [.val (.int x), .val (.int (most : Nat)), .val (.lst ((streamM x (2 + most)).map .int)), .any, .any, .any, .any] _ _
  generalize streamM x (2 + most) = xs at *
  have hx0 : atI xs 0 = some (xs.getD 0 0) := getD_of (l := xs) (x := 0) (by decide) (by show 0 < xs.length; omega)
  have hx1 : atI xs 1 = some (xs.getD 1 0) := getD_of (l := xs) (x := 1) (by decide) (by show 1 < xs.length; omega)
  obtain ⟨hs1, hs4⟩ := nStr_bd xs
  refine dss_seq (ds_setE (i := 3) (m := .val) (d := .int (1 + xs.getD 0 0 % 4)) (d' := .int (nStr xs : Nat)) (by repeat' tb_rel) rfl (by unfold nStr; congr 1; omega) sc_law_braid.nd rfl (.inl rfl) (by o_fieldsN) rfl) ?_
  refine dss_seq (ds_own (i := 4) (by repeat' tb_rel) sc_law_braid.nd rfl (by first | exact Or.inl rfl | exact Or.inr rfl) (by o_fieldsN) rfl) ?_
  obtain ⟨hc1, hc2⟩ := cntM_bd xs most
  have hcn : xs.getD 1 0 % ((most : Int) + 1) * (if decide (1 < (nStr xs : Int)) = true then 1 else 0) = ((cntM xs most : Nat) : Int) := by
    have h1 := Int.emod_nonneg (xs.getD 1 0) (show (most : Int) + 1 ≠ 0 by omega)
    unfold cntM
    generalize xs.getD 1 0 % ((most : Int) + 1) = z at *
    split <;> omega
  refine dss_cons (M := fun δ => ∃ (o5 : Sl), δ = [.val (.int x), .val (.int (most : Nat)), .val (.lst (xs.map .int)), .val (.int (nStr xs : Nat)), .own (wdD (word0 xs (nStr xs) (cntM xs most))), o5, .any]) ?_ ?_
  · refine ds_forR1 (n := ((cntM xs most : Nat) : Int)) (passes_of rfl) rfl rfl T.b_range (DE.cast (m := .val) (d := .int (xs.getD 1 0 % ((most : Int) + 1) * (if decide (1 < (nStr xs : Int)) = true then 1 else 0))) ?_ (by rw [hcn])) (dg_nm (j := 5) sc_law_braid.nd rfl (.inl rfl)) (by omega)
      (fun i δ => ∃ (o5 : Sl), δ = [.val (.int x), .val (.int (most : Nat)), .val (.lst (xs.map .int)), .val (.int (nStr xs : Nat)), .own (wdD (word0 xs (nStr xs) i)), o5, .any]) ⟨.any, rfl⟩ ?_ ?_ ?_
    · have hb : -(2 ^ 64) < (if decide (1 < (nStr xs : Int)) = true then (1 : Int) else 0) ∧ (if decide (1 < (nStr xs : Int)) = true then (1 : Int) else 0) < 2 ^ 64 := by split <;> decide
      refine de_bin (m1 := .val) (d1 := .int (xs.getD 1 0 % ((most : Int) + 1))) (m2 := .val) (d2 := .int (if decide (1 < (nStr xs : Int)) = true then 1 else 0)) (by repeat' tb_rel) (by repeat' tb_rel) (o_mul (.inr hb))
    · rintro i δ' ⟨o, rfl⟩
      show 5 < 7
      decide
    · rintro i δ' hi ⟨o, rfl⟩
      have hi : i < cntM xs most := by omega
      have hxi : atI xs (2 + (i : Int)) = some (xs.getD (2 + i) 0) := by
        have := getD_of (l := xs) (x := ((2 + i : Nat) : Int)) (by omega) (by rw [Int.toNat_natCast]; omega)
        rw [Int.toNat_natCast] at this
        rw [← this]
        congr 1
      have e1 : word0 xs (nStr xs) (i + 1) = word0 xs (nStr xs) i ++ [((xs.getD (2 + i) 0 % (if (nStr xs : Int) - 1 > 1 then (nStr xs : Int) - 1 else 1)).toNat, sgn2 (xs.getD (2 + i) 0 / 7))] := by
        unfold word0; rw [List.range_succ, List.map_append]; rfl
      have hlen : (word0 xs (nStr xs) i).length = i := by simp [word0]
      rw [e1]
      generalize word0 xs (nStr xs) i = wd at *
      have hpm := atI_pm2 (xs.getD (2 + i) 0 / 7)
      have hpos : 0 < (if (nStr xs : Int) - 1 > 1 then (nStr xs : Int) - 1 else 1) := by split <;> omega
      have hnn := Int.emod_nonneg (xs.getD (2 + i) 0) (Int.ne_of_gt hpos)
      show DSs _ _ _ [.val (.int x), .val (.int (most : Nat)), .val (.lst (xs.map .int)), .val (.int (nStr xs : Nat)), .own (.lst (wd.map wD)), .val (.int i), .any] _ _
      refine dss_one (ds_app (i := 4) rfl (by kat_tups) (ds := wd.map wD) rfl (m := .val) (d := .tup [.int (xs.getD (2 + i) 0 % (if (nStr xs : Int) - 1 > 1 then (nStr xs : Int) - 1 else 1)), .int (if (xs.getD (2 + i) 0 / 7) % 2 = 1 then -1 else 1)]) ?_ rfl (by rw [List.length_map]; omega) ?_)
      · refine de_tup (l := [(.val, .int (xs.getD (2 + i) 0 % (if (nStr xs : Int) - 1 > 1 then (nStr xs : Int) - 1 else 1))), (.val, .int (if (xs.getD (2 + i) 0 / 7) % 2 = 1 then -1 else 1))]) (da_cons (m := .val) ?_ (da_cons (m := .val) ?_ (da_nil rfl))) rfl (by o_fieldsN)
        · repeat' tb_rel
        · exact de_ix (m1 := .fr) (d1 := .lst [.int 1, .int (-1)]) (m2 := .val) (d2 := .int ((xs.getD (2 + i) 0 / 7) % 2)) (de_lst (l := [(.val, .int 1), (.val, .int (-1))]) (da_cons (m := .val) (by repeat' tb_rel) (da_cons (m := .val) (by repeat' tb_rel) (da_nil rfl))) rfl (by decide)) (by repeat' tb_rel) (ix_l hpm) (fun _ _ => rfl)
      · refine ⟨.val (.int i), ?_⟩
        rw [show wdD (wd ++ [((xs.getD (2 + i) 0 % (if (nStr xs : Int) - 1 > 1 then (nStr xs : Int) - 1 else 1)).toNat, sgn2 (xs.getD (2 + i) 0 / 7))]) = .lst (wd.map wD ++ [.tup [.int ((xs.getD (2 + i) 0 % (if (nStr xs : Int) - 1 > 1 then (nStr xs : Int) - 1 else 1)).toNat : Nat), .int (sgn2 (xs.getD (2 + i) 0 / 7))]]) by unfold wdD; rw [List.map_append]; rfl, Int.toNat_of_nonneg hnn]
        rfl
    · rintro δ' ⟨o, rfl⟩
      exact ⟨o, rfl⟩
  rintro _ ⟨o5, rfl⟩
  have hw0 := word0_ok (xs := xs) (n := cntM xs most) hc2
  have hl0 : (word0 xs (nStr xs) (cntM xs most)).length ≤ 100 := by simp [word0]; omega
  have hbw : braidW xs most = closeP xs (nStr xs) (word0 xs (nStr xs) (cntM xs most)) (nStr xs - 1) := rfl
  rw [hbw]
  generalize word0 xs (nStr xs) (cntM xs most) = w0 at *
  refine dss_cons (M := fun δ => ∃ (o5 o6 : Sl), δ = [.val (.int x), .val (.int (most : Nat)), .val (.lst (xs.map .int)), .val (.int (nStr xs : Nat)), .own (wdD (closeP xs (nStr xs) w0 (nStr xs - 1))), o5, o6]) ?_ ?_
  · refine ds_forR1 (n := ((nStr xs - 1 : Nat) : Int)) (passes_of rfl) rfl rfl T.b_range (DE.cast (d := .int ((nStr xs : Int) - 1)) (by repeat' tb_rel) (by congr 1; omega)) (dg_nm (j := 5) sc_law_braid.nd rfl (.inl rfl)) (by omega)
      (fun i δ => ∃ (o5 o6 : Sl), δ = [.val (.int x), .val (.int (most : Nat)), .val (.lst (xs.map .int)), .val (.int (nStr xs : Nat)), .own (wdD (closeP xs (nStr xs) w0 i)), o5, o6]) ⟨_, .any, rfl⟩ ?_ ?_ ?_
    · rintro i δ' ⟨o, o6, rfl⟩
      show 5 < 7
      decide
    · rintro i δ' hi ⟨o, o6, rfl⟩
      have hi : i < nStr xs - 1 := by omega
      obtain ⟨hok, hlen⟩ := closeP_ok (xs := xs) hw0 i (by omega)
      rw [closeP_succ]
      generalize closeP xs (nStr xs) w0 i = wd at *
      show DSs _ _ _ [.val (.int x), .val (.int (most : Nat)), .val (.lst (xs.map .int)), .val (.int (nStr xs : Nat)), .own (wdD wd), .val (.int i), o6] _ _
      refine dss_seq (ds_set (i := 6) (m := .val) (d := .lst ((cyclesM (nStr xs) wd).map .int)) (de_call FC (hr.mono hkC) rfl gC kCk bC (l := [(.val, .int (nStr xs : Nat)), (.sh, wdD wd)]) (da_cons (m := .val) (by repeat' tb_rel) (da_cons (m := .sh) (by kct_strs) (da_nil rfl))) (nStr xs, wd) rfl rfl ⟨by show nStr xs ≤ 100; omega, by show wd.length ≤ 1000; omega, hok⟩ rfl) rfl sc_law_braid.nd rfl (.inl rfl) (by o_fieldsN) rfl) ?_
      have hcy := cyclesM_ok (nStr xs) wd
      have a0 : atI (cyclesM (nStr xs) wd) (i : Int) = some ((cyclesM (nStr xs) wd).getD i 0) := at_belowN hcy (by omega)
      have a1 : atI (cyclesM (nStr xs) wd) ((i : Int) + 1) = some ((cyclesM (nStr xs) wd).getD (i + 1) 0) := at_belowN (i := i + 1) hcy (by omega)
      have ecs : closeStep xs (nStr xs) wd i = if (cyclesM (nStr xs) wd).getD i 0 = (cyclesM (nStr xs) wd).getD (i + 1) 0 then wd else wd ++ [(i, sgn2 (xs.getD 1 0 / 16 / ((i : Int) + 1)))] := rfl
      rw [ecs]
      generalize cyclesM (nStr xs) wd = hs at *
      show DSs _ _ _ [.val (.int x), .val (.int (most : Nat)), .val (.lst (xs.map .int)), .val (.int (nStr xs : Nat)), .own (.lst (wd.map wD)), .val (.int i), .val (.lst (hs.map .int))] _ _
      refine dss_one (ds_if (k := !decide (hs.getD i 0 = hs.getD (i + 1) 0)) (by repeat' tb_rel) (fun h => ?_) (fun h => ?_))
      · have h0 : ¬ hs.getD i 0 = hs.getD (i + 1) 0 := by simpa using h
        have hpm := atI_pm2 (xs.getD 1 0 / 16 / ((i : Int) + 1))
        have hdv : 0 < (i : Int) + 1 ∧ (i : Int) + 1 < 1073741824 := by omega
        refine dss_one (ds_app (i := 4) rfl (by kat_tups) (ds := wd.map wD) rfl (m := .val) (d := .tup [.int (i : Nat), .int (if (xs.getD 1 0 / 16 / ((i : Int) + 1)) % 2 = 1 then -1 else 1)]) ?_ rfl (by rw [List.length_map]; omega) ?_)
        · refine de_tup (l := [(.val, .int (i : Nat)), (.val, .int (if (xs.getD 1 0 / 16 / ((i : Int) + 1)) % 2 = 1 then -1 else 1))]) (da_cons (m := .val) (by repeat' tb_rel) (da_cons (m := .val) ?_ (da_nil rfl))) rfl (by o_fieldsN)
          exact de_ix (m1 := .fr) (d1 := .lst [.int 1, .int (-1)]) (m2 := .val) (d2 := .int ((xs.getD 1 0 / 16 / ((i : Int) + 1)) % 2)) (de_lst (l := [(.val, .int 1), (.val, .int (-1))]) (da_cons (m := .val) (by repeat' tb_rel) (da_cons (m := .val) (by repeat' tb_rel) (da_nil rfl))) rfl (by decide)) (by
            refine de_bin (m1 := .val) (d1 := .int (xs.getD 1 0 / 16 / ((i : Int) + 1))) (m2 := .val) (d2 := .int 2) ?_ ?_ ?_
            · refine de_bin (m1 := .val) (d1 := .int (xs.getD 1 0 / 16)) (m2 := .val) (d2 := .int ((i : Int) + 1)) ?_ ?_ ?_
              · refine de_bin (m1 := .val) (d1 := .int (xs.getD 1 0)) (m2 := .val) (d2 := .int 16) ?_ ?_ ?_
                · repeat' tb_rel
                · repeat' tb_rel
                · refine o_div ?_
                  decide
              · repeat' tb_rel
              · exact o_div hdv
            · repeat' tb_rel
            · exact o_mod (by decide)) (ix_l hpm) (fun _ _ => rfl)
        · refine ⟨.val (.int i), .val (.lst (hs.map .int)), ?_⟩
          rw [if_neg h0]
          unfold wdD
          rw [List.map_append]
          rfl
      · have h0 : hs.getD i 0 = hs.getD (i + 1) 0 := by simpa using h
        exact dss_nil rfl ⟨.val (.int i), .val (.lst (hs.map .int)), by rw [if_pos h0]⟩
    · rintro δ' ⟨o, o6, rfl⟩
      exact ⟨o, o6, rfl⟩
  rintro _ ⟨o, o6, rfl⟩
  refine dss_frz 4 rfl ?_
  show DSs _ _ _ [.val (.int x), .val (.int (most : Nat)), .val (.lst (xs.map .int)), .val (.int (nStr xs : Nat)), .val (wdD (closeP xs (nStr xs) w0 (nStr xs - 1))), o, o6] _ _
  refine dss_one (ds_retE (m := .val) (d := .tup [.int (nStr xs : Nat), wdD (closeP xs (nStr xs) w0 (nStr xs - 1))]) (d' := .tup [.int (nStr xs : Nat), wdD (closeP xs (nStr xs) w0 (nStr xs - 1))]) ?_ rfl rfl rfl)
  exact de_tup (l := [(.val, .int (nStr xs : Nat)), (.val, wdD (closeP xs (nStr xs) w0 (nStr xs - 1)))]) (da_cons (m := .val) (by kct_strs) (da_cons (m := .val) (by kct_strs) (da_nil rfl))) rfl (by o_fieldsN)
end
abbrev s_law_drawn : Stmt := topS 37
theorem sc_law_drawn : FnScope ["_law_x", "_law_most", "_law_strands", "_law_word", "_law_row", "_law_here", "_law_turn", "_law_level", "_law_i", "_law_sign", "_law_start"] ["_law_x", "_law_most"] (defScope s_law_drawn) := ⟨rfl, rfl, rfl, by decide +kernel, rfl, by decide +kernel, by decide +kernel⟩
section
local macro_rules | `(tactic| kct_strs) => `(tactic| first
  | ((with_reducible show DE _ _ _ _ (Expr.Name "_law_x" _) _); exact de_val (i := 0) rfl rfl (by kat_tups) rfl)
  | ((with_reducible show DE _ _ _ _ (Expr.Name "_law_x" _) _); exact de_old (i := 0) rfl rfl (by kat_tups) rfl)
  | ((with_reducible show DE _ _ _ _ (Expr.Name "_law_x" _) _); exact de_own (i := 0) rfl rfl (by kat_tups) rfl)
  | ((with_reducible show DE _ _ _ _ (Expr.Name "_law_most" _) _); exact de_val (i := 1) rfl rfl (by kat_tups) rfl)
  | ((with_reducible show DE _ _ _ _ (Expr.Name "_law_most" _) _); exact de_old (i := 1) rfl rfl (by kat_tups) rfl)
  | ((with_reducible show DE _ _ _ _ (Expr.Name "_law_most" _) _); exact de_own (i := 1) rfl rfl (by kat_tups) rfl)
  | ((with_reducible show DE _ _ _ _ (Expr.Name "_law_strands" _) _); exact de_val (i := 2) rfl rfl (by kat_tups) rfl)
  | ((with_reducible show DE _ _ _ _ (Expr.Name "_law_strands" _) _); exact de_old (i := 2) rfl rfl (by kat_tups) rfl)
  | ((with_reducible show DE _ _ _ _ (Expr.Name "_law_strands" _) _); exact de_own (i := 2) rfl rfl (by kat_tups) rfl)
  | ((with_reducible show DE _ _ _ _ (Expr.Name "_law_word" _) _); exact de_val (i := 3) rfl rfl (by kat_tups) rfl)
  | ((with_reducible show DE _ _ _ _ (Expr.Name "_law_word" _) _); exact de_old (i := 3) rfl rfl (by kat_tups) rfl)
  | ((with_reducible show DE _ _ _ _ (Expr.Name "_law_word" _) _); exact de_own (i := 3) rfl rfl (by kat_tups) rfl)
  | ((with_reducible show DE _ _ _ _ (Expr.Name "_law_row" _) _); exact de_val (i := 4) rfl rfl (by kat_tups) rfl)
  | ((with_reducible show DE _ _ _ _ (Expr.Name "_law_row" _) _); exact de_old (i := 4) rfl rfl (by kat_tups) rfl)
  | ((with_reducible show DE _ _ _ _ (Expr.Name "_law_row" _) _); exact de_own (i := 4) rfl rfl (by kat_tups) rfl)
  | ((with_reducible show DE _ _ _ _ (Expr.Name "_law_here" _) _); exact de_val (i := 5) rfl rfl (by kat_tups) rfl)
  | ((with_reducible show DE _ _ _ _ (Expr.Name "_law_here" _) _); exact de_old (i := 5) rfl rfl (by kat_tups) rfl)
  | ((with_reducible show DE _ _ _ _ (Expr.Name "_law_here" _) _); exact de_own (i := 5) rfl rfl (by kat_tups) rfl)
  | ((with_reducible show DE _ _ _ _ (Expr.Name "_law_turn" _) _); exact de_val (i := 6) rfl rfl (by kat_tups) rfl)
  | ((with_reducible show DE _ _ _ _ (Expr.Name "_law_turn" _) _); exact de_old (i := 6) rfl rfl (by kat_tups) rfl)
  | ((with_reducible show DE _ _ _ _ (Expr.Name "_law_turn" _) _); exact de_own (i := 6) rfl rfl (by kat_tups) rfl)
  | ((with_reducible show DE _ _ _ _ (Expr.Name "_law_level" _) _); exact de_val (i := 7) rfl rfl (by kat_tups) rfl)
  | ((with_reducible show DE _ _ _ _ (Expr.Name "_law_level" _) _); exact de_old (i := 7) rfl rfl (by kat_tups) rfl)
  | ((with_reducible show DE _ _ _ _ (Expr.Name "_law_level" _) _); exact de_own (i := 7) rfl rfl (by kat_tups) rfl)
  | ((with_reducible show DE _ _ _ _ (Expr.Name "_law_i" _) _); exact de_val (i := 8) rfl rfl (by kat_tups) rfl)
  | ((with_reducible show DE _ _ _ _ (Expr.Name "_law_i" _) _); exact de_old (i := 8) rfl rfl (by kat_tups) rfl)
  | ((with_reducible show DE _ _ _ _ (Expr.Name "_law_i" _) _); exact de_own (i := 8) rfl rfl (by kat_tups) rfl)
  | ((with_reducible show DE _ _ _ _ (Expr.Name "_law_sign" _) _); exact de_val (i := 9) rfl rfl (by kat_tups) rfl)
  | ((with_reducible show DE _ _ _ _ (Expr.Name "_law_sign" _) _); exact de_old (i := 9) rfl rfl (by kat_tups) rfl)
  | ((with_reducible show DE _ _ _ _ (Expr.Name "_law_sign" _) _); exact de_own (i := 9) rfl rfl (by kat_tups) rfl)
  | ((with_reducible show DE _ _ _ _ (Expr.Name "_law_start" _) _); exact de_val (i := 10) rfl rfl (by kat_tups) rfl)
  | ((with_reducible show DE _ _ _ _ (Expr.Name "_law_start" _) _); exact de_old (i := 10) rfl rfl (by kat_tups) rfl)
  | ((with_reducible show DE _ _ _ _ (Expr.Name "_law_start" _) _); exact de_own (i := 10) rfl rfl (by kat_tups) rfl))
abbrev outDn : Int × Nat → Out := fun a => .ret .val (drD (drawnPs a.1 a.2) (drawnTs a.1 a.2))
theorem ok_drawn {f fB fN : Addr} {fd fdB fdN : FuncData} {kB kN : Nat} (T : Tx mg) (F : Fun K "_law_drawn" "_law_drawn" s_law_drawn f fd)
    (FB : FnOk P w K mg base (L2.CX P w) kB fB fdB ["_law_x", "_law_most"] (spT K C [.val, .val] (fun a : Int × Nat => [.int a.1, .int (a.2 : Nat)]) (fun a => a.2 ≤ 100) outBr)) (gB : mg "_law_braid" = some (.ref fB)) (kBk : PySem.W.keepIn K (.ref fB) = true) (bB : Binds K fdB ["_law_x", "_law_most"] []) (hkB : kB ≤ k)
    (FN : FnOk P w K mg base (L2.CX P w) kN fN fdN ["_law_row", "_law_turns"] (spT K C [.val, .val] (fun a : List Int × List Int => [.lst (a.1.map .int), .lst (a.2.map .int)]) preNT outLn)) (gN : mg "_law_numbered" = some (.ref fN)) (kNk : PySem.W.keepIn K (.ref fN) = true) (bN : Binds K fdN ["_law_row", "_law_turns"] []) (hkN : kN ≤ k) :
    FnOk P w K mg base (L2.CX P w) (k + 1) f fd ["_law_x", "_law_most"] (spT K C [.val, .val] (fun a : Int × Nat => [.int a.1, .int (a.2 : Nat)]) (fun a => a.2 ≤ 100) outDn) := by
  refine ok_of F sc_law_drawn rfl fun cdv A outer s H E hr Hb a hp => ?_
  obtain ⟨x, most⟩ := a
  have hp : most ≤ 100 := hp
  show DSs _ _ _ [.val (.int x), .val (.int (most : Nat)), .any, .any, .any, .any, .any, .any, .any, .any, .any] _ (poOf (.ret .val (drD (lnP (rotM (drawRow (braidM x most).1 (braidM x most).2) (startM x (drawRow (braidM x most).1 (braidM x most).2)))) (lnT (tfT (signsM (braidM x most).2)) (rotM (drawRow (braidM x most).1 (braidM x most).2) (startM x (drawRow (braidM x most).1 (braidM x most).2)))))))
  have hsb : 1 ≤ (braidM x most).1 ∧ (braidM x most).1 ≤ 4 := nStr_bd _
  have hwk : WdOk (braidM x most).1 (braidM x most).2 := (braidW_ok _ most).1
  have hwl : (braidM x most).2.length ≤ most + 3 := (braidW_ok _ most).2
  refine dss_seq (ds_unp (m := .val) (d := .tup [.int ((braidM x most).1 : Nat), wdD (braidM x most).2]) (tg := .pr 2 3) (de_call FB (hr.mono hkB) rfl gB kBk bB (l := [(.val, .int x), (.val, .int (most : Nat))]) (da_cons (m := .val) (by repeat' tb_rel) (da_cons (m := .val) (by repeat' tb_rel) (da_nil rfl))) (x, most) rfl rfl hp rfl) (dg_pr rfl sc_law_drawn.nd rfl (.inl rfl) rfl (.inl rfl)) ⟨by o_fieldsN, by o_fieldsN⟩ rfl) ?_
  generalize braidM x most = bm at *
  obtain ⟨st, wd⟩ := bm
  simp only at hsb hwk hwl
  show DSs _ _ _ [.val (.int x), .val (.int (most : Nat)), .val (.int (st : Nat)), .val (wdD wd), .any, .any, .any, .any, .any, .any, .any] _ (poOf (.ret .val (drD (lnP (rotM (drawRow st wd) (startM x (drawRow st wd)))) (lnT (tfT (signsM wd)) (rotM (drawRow st wd) (startM x (drawRow st wd)))))))
  refine dss_seq (ds_own (i := 4) (by repeat' tb_rel) sc_law_drawn.nd rfl (by first | exact Or.inl rfl | exact Or.inr rfl) (by o_fieldsN) rfl) ?_
  refine dss_seq (ds_set (i := 5) (by repeat' tb_rel) (by rfl) sc_law_drawn.nd rfl (by first | exact Or.inl rfl | exact Or.inr rfl) (by o_fieldsN) rfl) ?_
  refine dss_cons (M := fun δ => ∃ (o5 o6 o7 o8 o9 : Sl), δ = [.val (.int x), .val (.int (most : Nat)), .val (.int (st : Nat)), .val (wdD wd), .own (.lst ((drawRow st wd).map .int)), o5, o6, o7, o8, o9, .any]) ?_ ?_
  · refine ds_forR1 (n := (st : Nat)) (passes_of rfl) rfl rfl T.b_range (by repeat' tb_rel) (dg_nm (j := 6) sc_law_drawn.nd rfl (.inl rfl)) (by omega)
      (fun i δ => ∃ (o6 o7 o8 o9 : Sl), δ = [.val (.int x), .val (.int (most : Nat)), .val (.int (st : Nat)), .val (wdD wd), .own (.lst ((drawP wd i).1.map .int)), .val (.int ((drawP wd i).2 : Nat)), o6, o7, o8, o9, .any]) ⟨.any, .any, .any, .any, rfl⟩ ?_ ?_ ?_
    · rintro i δ' ⟨_, _, _, _, rfl⟩
      show 6 < 11
      decide
    · rintro i δ' hi ⟨o6, o7, o8, o9, rfl⟩
      have hi : i < st := by omega
      have hrow := drawP_ok hwk i
      have hn : i * wd.length ≤ 4 * 103 := Nat.mul_le_mul (by omega) (by omega)
      have e1 : drawP wd (i + 1) = (List.range wd.length).foldl (drawStep wd) (drawP wd i) := by
        unfold drawP; rw [List.range_succ, List.foldl_append]; rfl
      rw [e1]
      generalize drawP wd i = S0 at *
      refine dss_one ?_
      refine ds_forR1 (n := (wd.length : Nat)) (passes_of rfl) rfl rfl T.b_range (DE.cast (m := .val) (d := .int ((wd.map wD).length : Nat)) (by repeat' tb_rel) (by rw [List.length_map])) (dg_nm (j := 7) sc_law_drawn.nd rfl (.inl rfl)) (by omega)
        (fun j δ => ∃ (o7 o8 o9 : Sl), δ = [.val (.int x), .val (.int (most : Nat)), .val (.int (st : Nat)), .val (wdD wd), .own (.lst (((List.range j).foldl (drawStep wd) S0).1.map .int)), .val (.int (((List.range j).foldl (drawStep wd) S0).2 : Nat)), .val (.int i), o7, o8, o9, .any]) ⟨_, _, _, rfl⟩ ?_ ?_ ?_
      · rintro j δ' ⟨_, _, _, rfl⟩
        show 7 < 11
        decide
      · rintro j δ' hj ⟨o7, o8, o9, rfl⟩
        have hj : j < wd.length := by omega
        have hr1 := (drawTurnP_ok hwk hrow j (by omega)).1
        rw [List.range_succ, List.foldl_append]
        generalize (List.range j).foldl (drawStep wd) S0 = S1 at *
        obtain ⟨row, here⟩ := S1
        have hr1 : row.length ≤ i * wd.length + j := hr1
        have hlen : (row.map D.int).length < 100000 := by rw [List.length_map]; omega
        have hat : atI (wd.map wD) (j : Int) = some (wD (wd.getD j (0, 0))) := by
          refine atI_nat ?_
          rw [List.getElem?_map, List.getElem?_eq_getElem hj, List.getD_eq_getElem?_getD, List.getElem?_eq_getElem hj]; rfl
        have hmem : wd.getD j (0, 0) ∈ wd := by
          rw [List.getD_eq_getElem?_getD, List.getElem?_eq_getElem hj]
          exact List.getElem_mem hj
        have hsg := (hwk _ hmem).2
        show DSs _ _ _ [.val (.int x), .val (.int (most : Nat)), .val (.int (st : Nat)), .val (.lst (wd.map wD)), .own (.lst (row.map .int)), .val (.int (here : Nat)), .val (.int i), .val (.int j), o8, o9, .any] _ _
        have est : ([j].foldl (drawStep wd) (row, here)) = drawStep wd (row, here) j := rfl
        rw [est]
        unfold drawStep
        generalize wd.getD j (0, 0) = xw at *
        obtain ⟨li, sg⟩ := xw
        simp only at hsg
        simp only
        have hb : -(2 ^ 64) < (j : Int) + 1 ∧ (j : Int) + 1 < 2 ^ 64 := by omega
        refine dss_seq (ds_unp (m := .val) (d := wD (li, sg)) (tg := .pr 8 9) (de_ix (m1 := .val) (d1 := .lst (wd.map wD)) (m2 := .val) (d2 := .int j) (by kct_strs) (by kct_strs) (ix_l hat) (fun _ _ => rfl)) (dg_pr rfl sc_law_drawn.nd rfl (.inl rfl) rfl (.inl rfl)) ⟨by o_fieldsN, by o_fieldsN⟩ rfl) ?_
        show DSs _ _ _ [.val (.int x), .val (.int (most : Nat)), .val (.int (st : Nat)), .val (.lst (wd.map wD)), .own (.lst (row.map .int)), .val (.int (here : Nat)), .val (.int i), .val (.int j), .val (.int (li : Nat)), .val (.int sg), .any] _ _
        refine dss_one (ds_if (k := decide ((here : Int) = (li : Int))) (by repeat' tb_rel) (fun h => ?_) (fun h => ?_))
        · have h0 : here = li := by
            have : (here : Int) = (li : Int) := by simpa using h
            omega
          rw [if_pos h0]
          refine dss_seq (ds_app (i := 4) rfl (by kat_tups) (ds := row.map .int) rfl (m := .val) (d := .int (((j : Int) + 1) * -sg)) (de_bin (m1 := .val) (d1 := .int ((j : Int) + 1)) (m2 := .val) (d2 := .int (-sg)) (by repeat' tb_rel) (by repeat' tb_rel) (o_mul (.inl hb))) rfl hlen rfl) ?_
          refine dss_one (ds_setE (i := 5) (m := .val) (d := .int ((li : Int) + 1)) (d' := .int ((li + 1 : Nat) : Int)) (by repeat' tb_rel) rfl (by push_cast; rfl) sc_law_drawn.nd rfl (.inl rfl) (by o_fieldsN) ?_)
          exact ⟨.val (.int j), .val (.int (li : Nat)), .val (.int sg), by rw [List.map_append]; rfl⟩
        · have h0 : ¬ here = li := by
            have : ¬ (here : Int) = (li : Int) := by simpa using h
            omega
          rw [if_neg h0]
          refine dss_one (ds_if (k := decide ((here : Int) = (li : Int) + 1)) (by repeat' tb_rel) (fun h => ?_) (fun h => ?_))
          · have h1 : here = li + 1 := by
              have : (here : Int) = (li : Int) + 1 := by simpa using h
              omega
            rw [if_pos h1]
            refine dss_seq (ds_app (i := 4) rfl (by kat_tups) (ds := row.map .int) rfl (m := .val) (d := .int (((j : Int) + 1) * sg)) (de_bin (m1 := .val) (d1 := .int ((j : Int) + 1)) (m2 := .val) (d2 := .int sg) (by repeat' tb_rel) (by repeat' tb_rel) (o_mul (.inl hb))) rfl hlen rfl) ?_
            refine dss_one (ds_setE (i := 5) (m := .val) (d := .int (li : Nat)) (d' := .int (li : Nat)) (by repeat' tb_rel) rfl rfl sc_law_drawn.nd rfl (.inl rfl) (by o_fieldsN) ?_)
            exact ⟨.val (.int j), .val (.int (li : Nat)), .val (.int sg), by rw [List.map_append]; rfl⟩
          · have h1 : ¬ here = li + 1 := by
              have : ¬ (here : Int) = (li : Int) + 1 := by simpa using h
              omega
            rw [if_neg h1]
            exact dss_nil rfl ⟨.val (.int j), .val (.int (li : Nat)), .val (.int sg), rfl⟩
      · rintro δ' ⟨o7, o8, o9, rfl⟩
        exact ⟨.val (.int i), o7, o8, o9, rfl⟩
    · rintro δ' ⟨o6, o7, o8, o9, rfl⟩
      exact ⟨_, o6, o7, o8, o9, rfl⟩
  rintro _ ⟨o5, o6, o7, o8, o9, rfl⟩
  obtain ⟨hrl, hrm⟩ := drawP_ok hwk st
  have hrl : (drawRow st wd).length ≤ st * wd.length := hrl
  have hrm : ∀ y ∈ drawRow st wd, 1 ≤ iabs y ∧ iabs y ≤ wd.length := hrm
  have hn : st * wd.length ≤ 4 * 103 := Nat.mul_le_mul (by omega) (by omega)
  generalize hrow : drawRow st wd = row at *
  have hpos : 0 < (if ((row.length : Nat) : Int) > 1 then ((row.length : Nat) : Int) else 1) := by split <;> omega
  have hnn := Int.emod_nonneg (x % 1009) (Int.ne_of_gt hpos)
  refine dss_seq (ds_setE (i := 10) (m := .val) (d := .int (x % 1009 % (if ((row.length : Nat) : Int) > 1 then ((row.length : Nat) : Int) else 1))) (d' := .int ((startM x row : Nat) : Int)) ?_ rfl (by unfold startM; rw [Int.toNat_of_nonneg hnn]) sc_law_drawn.nd rfl (.inl rfl) (by o_fieldsN) rfl) ?_
  · refine de_bin (m1 := .val) (d1 := .int (x % 1009)) (m2 := .val) (d2 := .int (if ((row.length : Nat) : Int) > 1 then ((row.length : Nat) : Int) else 1)) (by repeat' tb_rel) ?_ (o_mod hpos)
    refine DE.cast (m := .val) (d := .int (if (((row.map D.int).length : Nat) : Int) > 1 then (((row.map D.int).length : Nat) : Int) else 1)) (by repeat' tb_rel) (by rw [List.length_map])
  generalize startM x row = sp at *
  refine dss_one (ds_retE (m := .val) (d := .tup [.tup ((lnP (rotM row sp)).map .int), .tup ((lnT (tfT (signsM wd)) (rotM row sp)).map .int)]) (d' := drD (lnP (rotM row sp)) (lnT (tfT (signsM wd)) (rotM row sp))) ?_ rfl rfl rfl)
  refine de_call FN (hr.mono hkN) rfl gN kNk bN (l := [(.val, .lst ((rotM row sp).map .int)), (.val, .lst ((signsM wd).map .int))]) ?_ (rotM row sp, signsM wd) rfl rfl ⟨?_, ?_⟩ rfl
  · have er : rotM row sp = cutI row (some (sp : Int)) none ++ cutI row none (some (sp : Int)) := by rw [cutI_from, cutI_to]; rfl
    have es : (signsM wd).map D.int = (([0] : List Int) ++ wd.map (·.2)).map .int := rfl
    have es2 : ((wd.filter fun _ => true).map fun y : Nat × Int => D.int y.2) = (wd.map (·.2)).map .int := by
      rw [List.filter_true, List.map_map]; rfl
    rw [er, es]
    refine da_consV (m := .fr) (de_bin (m1 := .fr) (d1 := .lst ((cutI row (some (sp : Int)) none).map .int)) (m2 := .fr) (d2 := .lst ((cutI row none (some (sp : Int))).map .int)) (by repeat' tb_rel) (by repeat' tb_rel) (o_catI ?_)) rfl (da_consV (m := .fr) (de_bin (m1 := .fr) (d1 := .lst (([0] : List Int).map .int)) (m2 := .fr) (d2 := .lst ((wd.map (·.2)).map .int)) ?_ ?_ (o_catI ?_)) rfl (da_nil rfl))
    · rw [cutI_from, cutI_to]; simp; omega
    · exact de_lst (l := [(.val, .int 0)]) (da_cons (m := .val) (by repeat' tb_rel) (da_nil rfl)) rfl (by decide)
    · rw [← es2]
      exact de_lcL (m := .val) (enc := wD) (tg := .pr 8 9) (by kct_strs) (lcp_no (own := [("_law_i", 8), ("_law_sign", 9)]) rfl rfl sc_law_drawn.nd (blkOk_by rfl) (fun _ _ _ _ _ => dg_pr rfl sc_law_drawn.nd rfl (.inl rfl) rfl (.inl rfl)) (fun a _ => ⟨by show 8 < 11; decide, by show 9 < 11; decide⟩) (by decide) (fun a _ _ _ _ _ _ => by kct_strs) (by omega))
    · simp; omega
  · show (rotM row sp).length ≤ 1000
    unfold rotM; simp; omega
  · intro y hy
    have hy : y ∈ row := by
      unfold rotM at hy
      rcases List.mem_append.mp hy with hy | hy
      · exact List.mem_of_mem_drop hy
      · exact List.mem_of_mem_take hy
    have := hrm y hy
    show (iabs y).toNat < (signsM wd).length
    unfold signsM
    simp
    omega
end
/-! ### arcs laid on -/
theorem de_pair {X : Cx} {c : Cc} {δ : List Sl} {a b : Expr} {m1 m2 : Mo} {i j : Int} {n : Nat} {pos : Pos} (ha : DE X c m1 δ a (.int i)) (hb : DE X c m2 δ b (.int j)) (h1 : canVal m1 (.int i) = true := by rfl) (h2 : canVal m2 (.int j) = true := by rfl)
    (e1 : starEach [a, b] X.env = (false, eval a X.env) :: starEach [b] X.env := by rfl) (e2 : starEach [b] X.env = (false, eval b X.env) :: starEach [] X.env := by rfl) : DE X c .val δ (.Tuple [a, b] n pos) (.tup [.int i, .int j]) :=
  de_tup (l := [(.val, .int i), (.val, .int j)]) (da_cons (m := .val) (ha.val h1) (da_cons (m := .val) (hb.val h2) (da_nil ha.k) e2) e1) rfl (by show 2 ≤ 100000; decide)
abbrev s_Arc_open_steps : Stmt := inClass (topS 3) 3
theorem sc_Arc_open_steps : FnScope ["self", "sides", "here", "found", "gap", "way"] ["self"] (defScope s_Arc_open_steps) := ⟨rfl, rfl, rfl, by decide +kernel, rfl, by decide +kernel, by decide +kernel⟩
section
local macro_rules | `(tactic| kct_strs) => `(tactic| first
  | ((with_reducible show DE _ _ _ _ (Expr.Name "self" _) _); exact de_val (i := 0) rfl rfl (by kat_tups) rfl)
  | ((with_reducible show DE _ _ _ _ (Expr.Name "self" _) _); exact de_old (i := 0) rfl rfl (by kat_tups) rfl)
  | ((with_reducible show DE _ _ _ _ (Expr.Name "self" _) _); exact de_own (i := 0) rfl rfl (by kat_tups) rfl)
  | ((with_reducible show DE _ _ _ _ (Expr.Name "sides" _) _); exact de_val (i := 1) rfl rfl (by kat_tups) rfl)
  | ((with_reducible show DE _ _ _ _ (Expr.Name "sides" _) _); exact de_old (i := 1) rfl rfl (by kat_tups) rfl)
  | ((with_reducible show DE _ _ _ _ (Expr.Name "sides" _) _); exact de_own (i := 1) rfl rfl (by kat_tups) rfl)
  | ((with_reducible show DE _ _ _ _ (Expr.Name "here" _) _); exact de_val (i := 2) rfl rfl (by kat_tups) rfl)
  | ((with_reducible show DE _ _ _ _ (Expr.Name "here" _) _); exact de_old (i := 2) rfl rfl (by kat_tups) rfl)
  | ((with_reducible show DE _ _ _ _ (Expr.Name "here" _) _); exact de_own (i := 2) rfl rfl (by kat_tups) rfl)
  | ((with_reducible show DE _ _ _ _ (Expr.Name "found" _) _); exact de_val (i := 3) rfl rfl (by kat_tups) rfl)
  | ((with_reducible show DE _ _ _ _ (Expr.Name "found" _) _); exact de_old (i := 3) rfl rfl (by kat_tups) rfl)
  | ((with_reducible show DE _ _ _ _ (Expr.Name "found" _) _); exact de_own (i := 3) rfl rfl (by kat_tups) rfl)
  | ((with_reducible show DE _ _ _ _ (Expr.Name "gap" _) _); exact de_val (i := 4) rfl rfl (by kat_tups) rfl)
  | ((with_reducible show DE _ _ _ _ (Expr.Name "gap" _) _); exact de_old (i := 4) rfl rfl (by kat_tups) rfl)
  | ((with_reducible show DE _ _ _ _ (Expr.Name "gap" _) _); exact de_own (i := 4) rfl rfl (by kat_tups) rfl)
  | ((with_reducible show DE _ _ _ _ (Expr.Name "way" _) _); exact de_val (i := 5) rfl rfl (by kat_tups) rfl)
  | ((with_reducible show DE _ _ _ _ (Expr.Name "way" _) _); exact de_old (i := 5) rfl rfl (by kat_tups) rfl)
  | ((with_reducible show DE _ _ _ _ (Expr.Name "way" _) _); exact de_own (i := 5) rfl rfl (by kat_tups) rfl))
abbrev encOp : Ast → List D := fun a => [.arc a.1 a.2.1 (a.2.2 : Nat)]
abbrev preOp : Ast → Prop := fun a => a.1.length ≤ 1000 ∧ WF a.1 a.2.1 ∧ a.2.2 ≤ a.1.length
abbrev outOp : Ast → Out := fun a => .ret .val (.lst ((openA a).map pairD))
local macro_rules | `(tactic| keq_hits) => `(tactic| first
  | ((with_reducible show DE _ _ _ _ (Expr.Attribute _ "row" _) _); refine' de_row A' ?_ rfl)
  | ((with_reducible show DE _ _ _ _ (Expr.Attribute _ "turns" _) _); refine' de_turns A' ?_ rfl)
  | ((with_reducible show DE _ _ _ _ (Expr.Attribute _ "old" _) _); refine' de_old_ A' ?_ rfl))
theorem ok_opens {f fS : Addr} {fd fdS : FuncData} {ks : Nat} (T : Tx mg) (A' : ArcC K C) (F : Fun K "open_steps" "Arc.open_steps" s_Arc_open_steps f fd) (FS : FnOk P w K mg base (L2.CX P w) ks fS fdS ["self"] (spT K C [.bor] encSi preSi outSi))
    (mS : Meth K C "sides" fS) (bS : Binds K fdS ["self"] []) (hks : ks ≤ k) :
    FnOk P w K mg base (L2.CX P w) (k + 1) f fd ["self"] (spT K C [.bor] encOp preOp outOp) := by
  refine ok_of F sc_Arc_open_steps rfl fun cdv A outer s H E hr Hb a hp => ?_
  obtain ⟨row, tn, old⟩ := a
  obtain ⟨hl, wf, hol⟩ := hp
  have hl : row.length ≤ 1000 := hl
  have wf : WF row tn := wf
  have hol : old ≤ row.length := hol
  have hu := hu_of hr
  show DSs _ _ _ [.bor (.arc row tn (old : Nat)), .any, .any, .any, .any, .any] _ (poOf (.ret .val (.lst ((openM row tn old).map pairD))))
  refine dss_seq (ds_set (i := 1) (m := .val) (d := .dp (sidesM row tn)) (de_meth0 A'.cl mS FS (hr.mono hks) bS (row := row) (turns := tn) (n := (old : Nat)) (by kct_strs) (fun _ _ => rfl) (row, tn, ((old : Nat) : Int)) rfl ⟨hl, wf⟩ rfl) rfl sc_Arc_open_steps.nd rfl (.inl rfl) (by o_fieldsN) rfl) ?_
  show DSs _ _ _ [.bor (.arc row tn (old : Nat)), .val (.dp (sidesM row tn)), .any, .any, .any, .any] _ _
  obtain ⟨v0, hv0⟩ := sides_has row tn (h := ((row.length : Int), 1)) ⟨by simp only; omega, by simp only; omega, .inl rfl⟩
  refine dss_seq (ds_set (i := 2) (m := .val) (d := .int v0) (de_getP hu (m1 := .val) (m2 := .val) (by kct_strs) (de_pk (m1 := .val) (m2 := .val) (DE.cast (d := .int ((row.map D.int).length : Nat)) (by repeat' tb_rel) (by rw [List.length_map])) (by repeat' tb_rel)) (fun _ _ => rfl) hv0) rfl sc_Arc_open_steps.nd rfl (.inl rfl) (by o_fieldsN) rfl) ?_
  refine dss_seq (ds_own (i := 3) (by repeat' tb_rel) sc_Arc_open_steps.nd rfl (by first | exact Or.inl rfl | exact Or.inr rfl) (by o_fieldsN) rfl) ?_
  refine dss_cons (M := fun δ => ∃ o4 o5, δ = [.bor (.arc row tn (old : Nat)), .val (.dp (sidesM row tn)), .val (.int v0), .own (.lst ((openM row tn old).map pairD)), o4, o5]) ?_ ?_
  · refine ds_forR1 (n := (old : Nat) + 1) (passes_of rfl) rfl rfl T.b_range (by repeat' tb_rel) (dg_nm (j := 4) sc_Arc_open_steps.nd rfl (.inl rfl)) (by omega)
      (fun i δ => ∃ o4 o5, δ = [.bor (.arc row tn (old : Nat)), .val (.dp (sidesM row tn)), .val (.int v0), .own (.lst (((List.range i).flatMap (openG row tn)).map pairD)), o4, o5]) ⟨.any, .any, rfl⟩ ?_ ?_ ?_
    · rintro i δ' ⟨_, _, rfl⟩
      show 4 < 6
      decide
    · rintro g δ' hg ⟨o4, o5, rfl⟩
      have hgl : g < old + 1 := by omega
      rw [List.range_succ, List.flatMap_append]
      have hacc : ((List.range g).flatMap (openG row tn)).length ≤ 2 * g := by
        clear hg hgl
        induction g with
        | zero => simp
        | succ g ih =>
          rw [List.range_succ, List.flatMap_append, List.length_append]
          have : (List.flatMap (openG row tn) [g]).length ≤ 2 := by
            rw [List.flatMap_cons, List.flatMap_nil, List.append_nil]
            exact List.length_filter_le _ _
          omega
      generalize (List.range g).flatMap (openG row tn) = acc at *
      refine dss_one ?_
      refine ds_forT (ds := [.int 1, .int (-1)]) (passes_of rfl) rfl (DE.cast (by repeat' tb_rel) (by rfl)) rfl (dg_nm (j := 5) sc_Arc_open_steps.nd rfl (.inl rfl))
        (fun j δ => ∃ o5, δ = [.bor (.arc row tn (old : Nat)), .val (.dp (sidesM row tn)), .val (.int v0), .own (.lst (acc.map pairD ++ ((([((g : Int), 1), ((g : Int), -1)] : List Side).take j).filter fun s => sameF row tn s ((row.length : Int), 1)).map pairD)), .val (.int g), o5]) ⟨o5, by simp⟩ ?_ ?_ ?_
      · rintro j d δ' _ ⟨_, rfl⟩
        show 5 < 6
        decide
      · rintro j d δ' hd ⟨o5, rfl⟩
        obtain ⟨wy, rfl, hwy, hw1⟩ : ∃ wy : Int, d = .int wy ∧ ([((g : Int), 1), ((g : Int), -1)] : List Side)[j]? = some ((g : Int), wy) ∧ (wy = 1 ∨ wy = -1) := by
          match j, hd with
          | 0, hd => exact ⟨1, by simpa using hd.symm, rfl, .inl rfl⟩
          | 1, hd => exact ⟨-1, by simpa using hd.symm, rfl, .inr rfl⟩
          | j + 2, hd => simp at hd
        rw [filt_succ _ _ hwy]
        obtain ⟨v1, hv1⟩ := sides_has row tn (h := ((g : Int), wy)) ⟨by simp only; omega, by simp only; omega, hw1⟩
        have hsame : sameF row tn ((g : Int), wy) ((row.length : Int), 1) = decide (v1 = v0) := by
          unfold sameF
          rw [hv1, hv0]
          by_cases h : v1 = v0
          · subst h; simp
          · rw [decide_eq_false h, decide_eq_false (by simpa using h)]
        have hfl : (((([((g : Int), 1), ((g : Int), -1)] : List Side).take j).filter fun s => sameF row tn s ((row.length : Int), 1)).map pairD).length ≤ 2 := by
          rw [List.length_map]
          refine Nat.le_trans (List.length_filter_le _ _) ?_
          rw [List.length_take]
          exact Nat.min_le_right _ _
        generalize ((([((g : Int), 1), ((g : Int), -1)] : List Side).take j).filter fun s => sameF row tn s ((row.length : Int), 1)).map pairD = fl at *
        show DSs _ _ _ [.bor (.arc row tn (old : Nat)), .val (.dp (sidesM row tn)), .val (.int v0), .own (.lst (acc.map pairD ++ fl)), .val (.int g), .val (.int wy)] _ _
        refine dss_one (ds_if (k := decide (v1 = v0)) ?_ (fun h => ?_) (fun h => ?_))
        · exact dt_cm (m1 := .val) (d1 := .int v1) (m2 := .val) (d2 := .int v0) (de_getP hu (m1 := .val) (m2 := .val) (by kct_strs) (de_pk (m1 := .val) (m2 := .val) (by repeat' tb_rel) (by repeat' tb_rel)) (fun _ _ => rfl) hv1) (by kct_strs) (by repeat' tb_rel)
        · rw [hsame, h, if_pos rfl]
          refine dss_one (ds_app (i := 3) rfl (by kat_tups) (ds := acc.map pairD ++ fl) rfl (m := .val) (d := pairD ((g : Int), wy)) (de_pair (m1 := .val) (m2 := .val) (by repeat' tb_rel) (by repeat' tb_rel)) rfl (by rw [List.length_append, List.length_map]; omega) ?_)
          exact ⟨.val (.int wy), by rw [List.append_assoc]; rfl⟩
        · rw [hsame, h, if_neg (by decide)]
          exact dss_nil rfl ⟨.val (.int wy), rfl⟩
      · rintro δ' ⟨o5, rfl⟩
        refine ⟨.val (.int g), o5, ?_⟩
        rw [List.map_append, List.flatMap_cons, List.flatMap_nil, List.append_nil]
        rfl
    · rintro δ' ⟨o4, o5, rfl⟩
      exact ⟨o4, o5, rfl⟩
  rintro _ ⟨o4, o5, rfl⟩
  refine dss_frz 3 rfl ?_
  (refine' dss_one (ds_retE (d' := .lst ((openM row tn old).map pairD)) ?_ ?_ ?_ rfl); (repeat' tb_rel); all_goals (first | rfl | (rfl)))
end
abbrev s_Arc_meets : Stmt := inClass (topS 3) 4
theorem sc_Arc_meets : FnScope ["self", "sides"] ["self"] (defScope s_Arc_meets) := ⟨rfl, rfl, rfl, by decide +kernel, rfl, by decide +kernel, by decide +kernel⟩
section
local macro_rules | `(tactic| kct_strs) => `(tactic| first
  | ((with_reducible show DE _ _ _ _ (Expr.Name "self" _) _); exact de_val (i := 0) rfl rfl (by kat_tups) rfl)
  | ((with_reducible show DE _ _ _ _ (Expr.Name "self" _) _); exact de_old (i := 0) rfl rfl (by kat_tups) rfl)
  | ((with_reducible show DE _ _ _ _ (Expr.Name "self" _) _); exact de_own (i := 0) rfl rfl (by kat_tups) rfl)
  | ((with_reducible show DE _ _ _ _ (Expr.Name "sides" _) _); exact de_val (i := 1) rfl rfl (by kat_tups) rfl)
  | ((with_reducible show DE _ _ _ _ (Expr.Name "sides" _) _); exact de_old (i := 1) rfl rfl (by kat_tups) rfl)
  | ((with_reducible show DE _ _ _ _ (Expr.Name "sides" _) _); exact de_own (i := 1) rfl rfl (by kat_tups) rfl))
abbrev outMe : Ast → Out := fun a => .ret .val (.bl (meetsM a.1 a.2.1))
local macro_rules | `(tactic| keq_hits) => `(tactic| first
  | ((with_reducible show DE _ _ _ _ (Expr.Attribute _ "row" _) _); refine' de_row A' ?_ rfl)
  | ((with_reducible show DE _ _ _ _ (Expr.Attribute _ "turns" _) _); refine' de_turns A' ?_ rfl)
  | ((with_reducible show DE _ _ _ _ (Expr.Attribute _ "old" _) _); refine' de_old_ A' ?_ rfl))
theorem ok_meets {f fS : Addr} {fd fdS : FuncData} {ks : Nat} (T : Tx mg) (A' : ArcC K C) (F : Fun K "meets" "Arc.meets" s_Arc_meets f fd) (FS : FnOk P w K mg base (L2.CX P w) ks fS fdS ["self"] (spT K C [.bor] encSi preSi outSi))
    (mS : Meth K C "sides" fS) (bS : Binds K fdS ["self"] []) (hks : ks ≤ k) :
    FnOk P w K mg base (L2.CX P w) (k + 1) f fd ["self"] (spT K C [.bor] encOp preOp outMe) := by
  refine ok_of F sc_Arc_meets rfl fun cdv A outer s H E hr Hb a hp => ?_
  obtain ⟨row, tn, old⟩ := a
  obtain ⟨hl, wf, hol⟩ := hp
  have hl : row.length ≤ 1000 := hl
  have wf : WF row tn := wf
  have hu := hu_of hr
  show DSs _ _ _ [.bor (.arc row tn (old : Nat)), .any] _ (poOf (.ret .val (.bl (meetsM row tn))))
  refine dss_seq (ds_set (i := 1) (m := .val) (d := .dp (sidesM row tn)) (de_meth0 A'.cl mS FS (hr.mono hks) bS (row := row) (turns := tn) (n := (old : Nat)) (by kct_strs) (fun _ _ => rfl) (row, tn, ((old : Nat) : Int)) rfl ⟨hl, wf⟩ rfl) rfl sc_Arc_meets.nd rfl (.inl rfl) (by o_fieldsN) rfl) ?_
  show DSs _ _ _ [.bor (.arc row tn (old : Nat)), .val (.dp (sidesM row tn))] _ _
  obtain ⟨v0, hv0⟩ := sides_has row tn (h := ((row.length : Int), 1)) ⟨by simp only; omega, by simp only; omega, .inl rfl⟩
  obtain ⟨v1, hv1⟩ := sides_has row tn (h := (0, -1)) ⟨by simp only; omega, by simp only; omega, .inr rfl⟩
  have hsame : meetsM row tn = decide (v0 = v1) := by
    unfold meetsM sameF
    rw [hv1, hv0]
    by_cases h : v0 = v1
    · subst h; simp
    · rw [decide_eq_false h, decide_eq_false (by simpa using h)]
  refine dss_one (ds_retE (m := .val) (d := .bl (decide (v0 = v1))) (d' := .bl (meetsM row tn)) ?_ rfl (by rw [hsame]) rfl)
  refine de_cm (m1 := .val) (d1 := .int v0) (m2 := .val) (d2 := .int v1) (de_getP hu (m1 := .val) (m2 := .val) (by kct_strs) (de_pk (m1 := .val) (m2 := .val) (DE.cast (d := .int ((row.map D.int).length : Nat)) (by repeat' tb_rel) (by rw [List.length_map])) (by repeat' tb_rel)) (fun _ _ => rfl) hv0) (de_getP hu (m1 := .val) (m2 := .val) (by kct_strs) (de_pk (m1 := .val) (m2 := .val) (by repeat' tb_rel) (by repeat' tb_rel)) (fun _ _ => rfl) hv1) (cv_of (o_eqI hr.units rfl) rfl)
end
abbrev s_Arc_cross : Stmt := inClass (topS 3) 5
theorem sc_Arc_cross : FnScope ["self", "gap", "way", "sign", "number"] ["self", "gap", "way", "sign"] (defScope s_Arc_cross) := ⟨rfl, rfl, rfl, by decide +kernel, rfl, by decide +kernel, by decide +kernel⟩
section
local macro_rules | `(tactic| kct_strs) => `(tactic| first
  | ((with_reducible show DE _ _ _ _ (Expr.Name "self" _) _); exact de_val (i := 0) rfl rfl (by kat_tups) rfl)
  | ((with_reducible show DE _ _ _ _ (Expr.Name "self" _) _); exact de_old (i := 0) rfl rfl (by kat_tups) rfl)
  | ((with_reducible show DE _ _ _ _ (Expr.Name "self" _) _); exact de_own (i := 0) rfl rfl (by kat_tups) rfl)
  | ((with_reducible show DE _ _ _ _ (Expr.Name "gap" _) _); exact de_val (i := 1) rfl rfl (by kat_tups) rfl)
  | ((with_reducible show DE _ _ _ _ (Expr.Name "gap" _) _); exact de_old (i := 1) rfl rfl (by kat_tups) rfl)
  | ((with_reducible show DE _ _ _ _ (Expr.Name "gap" _) _); exact de_own (i := 1) rfl rfl (by kat_tups) rfl)
  | ((with_reducible show DE _ _ _ _ (Expr.Name "way" _) _); exact de_val (i := 2) rfl rfl (by kat_tups) rfl)
  | ((with_reducible show DE _ _ _ _ (Expr.Name "way" _) _); exact de_old (i := 2) rfl rfl (by kat_tups) rfl)
  | ((with_reducible show DE _ _ _ _ (Expr.Name "way" _) _); exact de_own (i := 2) rfl rfl (by kat_tups) rfl)
  | ((with_reducible show DE _ _ _ _ (Expr.Name "sign" _) _); exact de_val (i := 3) rfl rfl (by kat_tups) rfl)
  | ((with_reducible show DE _ _ _ _ (Expr.Name "sign" _) _); exact de_old (i := 3) rfl rfl (by kat_tups) rfl)
  | ((with_reducible show DE _ _ _ _ (Expr.Name "sign" _) _); exact de_own (i := 3) rfl rfl (by kat_tups) rfl)
  | ((with_reducible show DE _ _ _ _ (Expr.Name "number" _) _); exact de_val (i := 4) rfl rfl (by kat_tups) rfl)
  | ((with_reducible show DE _ _ _ _ (Expr.Name "number" _) _); exact de_old (i := 4) rfl rfl (by kat_tups) rfl)
  | ((with_reducible show DE _ _ _ _ (Expr.Name "number" _) _); exact de_own (i := 4) rfl rfl (by kat_tups) rfl))
theorem ok_cross {f : Addr} {fd : FuncData} (T : Tx mg) (A : ArcC K C) (F : Fun K "cross" "Arc.cross" s_Arc_cross f fd) : FnOk P w K mg base (L2.CX P w) (k + 1) f fd ["self", "gap", "way", "sign"] (spCross C) := by
  refine F.okX sc_Arc_cross (fun vs H Q E h => ?_) (fun cdv A' outer s H vs Q E hr h => ?_)
  · obtain ⟨x, dx, p, q, row, tn, old, gap, way, sign, rfl, _⟩ := h
    rfl
  · obtain ⟨x, dx, p, q, row, tn, old, gap, way, sign, rfl, hx, hp, hq, ok, go⟩ := h
    have hu := hu_of hr
    refine ⟨_, pss_cons (ps_set (i := 4) sc_Arc_cross.nd rfl (.inl rfl) (pe_add (pe_maxDf rfl rfl T.b_max (pa_cons (pe_fld (pv 0) rfl) pa_nil) (pk_cons pe_int pk_nil)) pe_int) rfl (.inl rfl))
      (pss_cons (ps_expr (pe_bm PySem.F.plainAttrs_list PySem.F.slot_list_insert PySem.F.type_list_insert mt_insert (pe_fld (pv 0) rfl) (pa_cons (pv 1) (pa_cons (pe_mul (pe_un un_neg (pv 3)) (pv 4)) pa_nil))) rfl)
      (pss_cons (ps_expr (pe_bm PySem.F.plainAttrs_list PySem.F.slot_list_append PySem.F.type_list_append mt_append (pe_fld (pv 0) rfl) (pa_cons (pe_mul (pv 3) (pv 4)) pa_nil)) rfl)
      (pss_cons (ps_dput hu (pe_fld (pv 0) rfl) (pv 4) (pe_mul (pv 3) (pv 2)) rfl)
      (pss_one (ps_fld (pv 0) (pe_add (pe_fld (pv 0) rfl) pe_int) rfl))))), ?_⟩
    have nqx : q ≠ x := ne_of hq hx (by intro z; cases z)
    have npx : p ≠ x := ne_of hp hx (by intro z; cases z)
    have npq : p ≠ q := ne_of hp hq (by intro z; cases z)
    refine ⟨.ref x, rfl, x, C, dx, _, .ref q, rfl, hx, A.cl, A.turns, rfl, ?_⟩
    refine ⟨q, iv tn, 0, rfl, rfl, hq, ?_⟩
    refine ⟨_, _, rfl, rfl, ?_⟩
    refine ⟨.ref x, rfl, x, C, dx, _, .ref p, rfl, hx, A.cl, A.row, rfl, .inl ⟨rfl, _, SqL.of hp⟩, ?_⟩
    have hN : (if iv tn = [] then (0 : Int) else imax ((iv tn).map (·.1))) + 1 = newN tn := by
      unfold newN
      have e1 : (iv tn).map (·.1) = tn.map (·.1) := by rw [List.map_map]; rfl
      by_cases h : tn = []
      · subst h; rfl
      · rw [if_neg h, if_neg (fun z => h (List.map_eq_nil_iff.mp z)), e1]
    rw [hN]
    generalize hNN : newN tn = N at *
    have sb : -(2 ^ 64) < sign ∧ sign < 2 ^ 64 := by rcases ok.sg with h | h <;> omega
    have nb : -(2 ^ 64) < -sign ∧ -sign < 2 ^ 64 := by rcases ok.sg with h | h <;> omega
    have sl := sizeLine_eq
    have okr := ok.row
    have okt := ok.tn
    refine ⟨.int gap, rfl, .int sign, rfl, sign, rfl, .int N, rfl, -sign, N, rfl, rfl, nb, ?_⟩
    refine ⟨p, row.map V.int, gap, .int (-sign * N), rfl, rfl, hp, by rw [List.length_map]; omega, ok.lo, ok.hi, ?_⟩
    generalize hr1 : ((row.map V.int).take gap.toNat ++ [V.int (-sign * N)] ++ (row.map V.int).drop gap.toNat) = r1
    have hl1 : r1.length ≤ row.length + 1 := by rw [← hr1]; simp; omega
    refine ⟨.ref x, rfl, x, C, dx, _, .ref p, rfl, by rw [upd_ne npx.symm]; exact hx, A.cl, A.row, rfl, .inl ⟨rfl, _, SqL.of upd_same⟩, ?_⟩
    refine ⟨.int sign, rfl, .int N, rfl, sign, N, rfl, rfl, sb, ?_⟩
    refine ⟨p, r1, .int (sign * N), rfl, rfl, upd_same, by omega, ?_⟩
    rw [upd_upd]
    refine ⟨.int sign, rfl, .int way, rfl, sign, way, rfl, rfl, sb, ?_⟩
    refine ⟨.ref x, rfl, x, C, dx, _, .ref q, rfl, by rw [upd_ne npx.symm]; exact hx, A.cl, A.turns, rfl, ?_⟩
    refine ⟨.int N, rfl, q, _, rfl, DPut.k (k := .inl N) (by rw [upd_ne npq.symm]; exact hq) (szl (by rw [List.length_map, List.length_map]; omega)), ?_⟩
    refine ⟨.ref x, rfl, x, C, dx, _, .int old, rfl, by rw [upd_ne nqx.symm, upd_ne npx.symm]; exact hx, A.cl, A.old, rfl, old, 1, rfl, rfl, ?_⟩
    refine ⟨.ref x, rfl, x, C, dx, [("row", .ref p), ("turns", .ref q), ("old", .int old)], rfl, by rw [upd_ne nqx.symm, upd_ne npx.symm]; exact hx, A.cl, A.old, (show (3 : Nat) < 1000 by decide), ?_⟩
    refine go _ upd_same ?_ ?_ fun z h1 h2 h3 => ?_
    · rw [upd_ne npx, upd_ne npq, upd_same, ← hr1]
      unfold crossRow
      rw [hNN]
      simp only [List.map_append, List.map_take, List.map_drop, List.map_cons, List.map_nil]
    · rw [upd_ne nqx, upd_same, kkv_put, iv_put]
      unfold crossTn
      rw [hNN]
    · rw [upd_ne h1, upd_ne h3, upd_ne h2]
end
/-! ### stretches -/
structure Sg (w : World) (K : PySem.W.Frag) (mg : Str → Option Value) (aS : Addr) : Prop where
  g : mg "SIGNS" = some (.ref aS)
  o : KDct K w aS "over" (.int 1)
  u : KDct K w aS "under" (.int (-1))
abbrev kindS (ov : Bool) : Str := if ov = true then "over" else "under"
abbrev sgO (ov : Bool) : Int := if ov = true then 1 else -1
theorem Sg.at {aS : Addr} (h : Sg w K mg aS) (ov : Bool) : KDct K w aS (kindS ov) (.int (sgO ov)) := by
  cases ov
  · exact h.u
  · exact h.o
theorem sgO_pm (ov : Bool) : sgO ov = 1 ∨ sgO ov = -1 := by cases ov <;> simp
theorem kind_in (ov : Bool) : inD (.str (kindS ov)) [.str "over", .str "under"] = true := by cases ov <;> decide
theorem kind_fl (ov : Bool) (n : Nat) : fl n (.str (kindS ov)) = true := by
  cases n <;> cases ov <;> (simp only [fl]; first | rfl | decide +kernel | simp [PyData.canLay0])
theorem kinds_fl : fl 8 (.tup [.str "over", .str "under"]) = true := by
  have a : fl 7 (.str "over") = true := kind_fl true 7
  have b : fl 7 (.str "under") = true := kind_fl false 7
  show (fl 7 (.str "over") && (fl 7 (.str "under") && true)) = true
  rw [a, b]; rfl
theorem fl_dr (n : Nat) (ps ts : List Int) : fl (n + 2) (drD ps ts) = true := by
  show ([D.tup (ps.map .int), .tup (ts.map .int)]).all (fl (n + 1)) = true
  rw [List.all_cons, List.all_cons, List.all_nil, Bool.and_true]
  show ((ps.map D.int).all (fl n) && (ts.map D.int).all (fl n)) = true
  rw [fl_ints, fl_ints]; rfl
abbrev StrT := (List Int × List Int) × Nat × Nat × Bool
abbrev encNs : StrT → List D := fun a => [drD a.1.1 a.1.2, .int (a.2.1 : Nat), .int (a.2.2.1 : Nat), .str (kindS a.2.2.2)]
structure NsOk (ps ts : List Int) (b e : Nat) (ov : Bool) : Prop where
  dr : isDrw (drD ps ts) = true
  be : b ≤ e
  el : e ≤ ps.length
  sg : ∀ x ∈ (ps.drop b).take (e - b), 0 ≤ x * sgO ov
abbrev preNs : StrT → Prop := fun a => NsOk a.1.1 a.1.2 a.2.1 a.2.2.1 a.2.2.2
abbrev s_need_stretch : Stmt := topS 21
theorem sc_need_stretch : FnScope ["drawing", "begin", "end", "kind", "passes", "one"] ["drawing", "begin", "end", "kind"] (defScope s_need_stretch) := ⟨rfl, rfl, rfl, by decide +kernel, rfl, by decide +kernel, by decide +kernel⟩
section
local macro_rules | `(tactic| kct_strs) => `(tactic| first
  | ((with_reducible show DE _ _ _ _ (Expr.Name "drawing" _) _); exact de_val (i := 0) rfl rfl (by kat_tups) rfl)
  | ((with_reducible show DE _ _ _ _ (Expr.Name "drawing" _) _); exact de_old (i := 0) rfl rfl (by kat_tups) rfl)
  | ((with_reducible show DE _ _ _ _ (Expr.Name "drawing" _) _); exact de_own (i := 0) rfl rfl (by kat_tups) rfl)
  | ((with_reducible show DE _ _ _ _ (Expr.Name "begin" _) _); exact de_val (i := 1) rfl rfl (by kat_tups) rfl)
  | ((with_reducible show DE _ _ _ _ (Expr.Name "begin" _) _); exact de_old (i := 1) rfl rfl (by kat_tups) rfl)
  | ((with_reducible show DE _ _ _ _ (Expr.Name "begin" _) _); exact de_own (i := 1) rfl rfl (by kat_tups) rfl)
  | ((with_reducible show DE _ _ _ _ (Expr.Name "end" _) _); exact de_val (i := 2) rfl rfl (by kat_tups) rfl)
  | ((with_reducible show DE _ _ _ _ (Expr.Name "end" _) _); exact de_old (i := 2) rfl rfl (by kat_tups) rfl)
  | ((with_reducible show DE _ _ _ _ (Expr.Name "end" _) _); exact de_own (i := 2) rfl rfl (by kat_tups) rfl)
  | ((with_reducible show DE _ _ _ _ (Expr.Name "kind" _) _); exact de_val (i := 3) rfl rfl (by kat_tups) rfl)
  | ((with_reducible show DE _ _ _ _ (Expr.Name "kind" _) _); exact de_old (i := 3) rfl rfl (by kat_tups) rfl)
  | ((with_reducible show DE _ _ _ _ (Expr.Name "kind" _) _); exact de_own (i := 3) rfl rfl (by kat_tups) rfl)
  | ((with_reducible show DE _ _ _ _ (Expr.Name "passes" _) _); exact de_val (i := 4) rfl rfl (by kat_tups) rfl)
  | ((with_reducible show DE _ _ _ _ (Expr.Name "passes" _) _); exact de_old (i := 4) rfl rfl (by kat_tups) rfl)
  | ((with_reducible show DE _ _ _ _ (Expr.Name "passes" _) _); exact de_own (i := 4) rfl rfl (by kat_tups) rfl)
  | ((with_reducible show DE _ _ _ _ (Expr.Name "one" _) _); exact de_val (i := 5) rfl rfl (by kat_tups) rfl)
  | ((with_reducible show DE _ _ _ _ (Expr.Name "one" _) _); exact de_old (i := 5) rfl rfl (by kat_tups) rfl)
  | ((with_reducible show DE _ _ _ _ (Expr.Name "one" _) _); exact de_own (i := 5) rfl rfl (by kat_tups) rfl))
theorem ok_nstretch {f fD fN : Addr} {fd fdD fdN : FuncData} {kd kn : Nat} {eD aS : Addr} (T : Tx mg) (SG : Sg w K mg aS) (F : Fun K "need_stretch" "need_stretch" s_need_stretch f fd)
    (FD : FnOk P w K mg base (L2.CX P w) kd fD fdD ["thing"] (spT K C [.bor] (fun d : D => [d]) (fun d => fl 8 d = true) (outNe eD))) (gD : mg "need_drawing" = some (.ref fD)) (kD : PySem.W.keepIn K (.ref fD) = true) (bD : Binds K fdD ["thing"] []) (hkd : kd ≤ k)
    (FN : FnOk P w K mg base (L2.CX P w) kn fN fdN ["thing"] (spT K C [.bor] (fun d : D => [d]) (fun d => tyOk d = true) outNum)) (gN : mg "is_number" = some (.ref fN)) (kN : PySem.W.keepIn K (.ref fN) = true) (bN : Binds K fdN ["thing"] []) (hkn : kn ≤ k) :
    FnOk P w K mg base (L2.CX P w) (k + 1) f fd ["drawing", "begin", "end", "kind"] (spT K C [.val, .val, .val, .val] encNs preNs (fun _ => .ret .val .non)) := by
  refine ok_of F sc_need_stretch rfl fun cdv A outer s H E hr Hb a hp => ?_
  obtain ⟨⟨ps, ts⟩, b, e, ov⟩ := a
  obtain ⟨hdr, hbe, hel, hsg⟩ := hp
  have hdr : isDrw (drD ps ts) = true := hdr
  have hbe : b ≤ e := hbe
  have hel : e ≤ ps.length := hel
  have hsg : ∀ x ∈ (ps.drop b).take (e - b), 0 ≤ x * sgO ov := hsg
  have hu := hu_of hr
  show DSs _ _ _ [.val (drD ps ts), .val (.int (b : Nat)), .val (.int (e : Nat)), .val (.str (kindS ov)), .any, .any] _ (poOf (.ret .val .non))
  refine dss_seq (ds_drop (m := .val) (d := .non) (de_call FD (hr.mono hkd) rfl gD kD bD (l := [(.val, drD ps ts)]) (da_cons (m := .val) (by kct_strs) (da_nil rfl)) (drD ps ts) rfl rfl (fl_dr 6 ps ts) (by show (if isDrw (drD ps ts) = true then Out.ret .val .non else .exc eD) = _; rw [if_pos hdr])) rfl) ?_
  refine dss_seq (ds_set (i := 4) (m := .val) (d := .tup (ps.map .int)) (de_ix (m1 := .val) (d1 := drD ps ts) (m2 := .val) (d2 := .int 0) (by kct_strs) (by repeat' tb_rel) (ix_t rfl) (fun _ _ => rfl)) rfl sc_need_stretch.nd rfl (.inl rfl) (by o_fieldsN) rfl) ?_
  show DSs _ _ _ [.val (drD ps ts), .val (.int (b : Nat)), .val (.int (e : Nat)), .val (.str (kindS ov)), .val (.tup (ps.map .int)), .any] _ _
  refine dss_guard (k := (!isNum (.int (b : Nat))) || ((!isNum (.int (e : Nat))) || (!(decide ((0 : Int) ≤ (b : Nat)) && (decide (((b : Nat) : Int) ≤ (e : Nat)) && decide (((e : Nat) : Int) ≤ (ps.length : Nat))))))) ?_ (fun h => ?_) (fun _ => ?_)
  · refine DW.dt (dw_or (k1 := !isNum (.int (b : Nat))) (dt_not (dt_val (de_call FN (hr.mono hkn) rfl gN kN bN (l := [(.val, .int (b : Nat))]) (da_cons (m := .val) (by kct_strs) (da_nil rfl)) (.int (b : Nat)) rfl rfl rfl rfl))) fun _ => ?_)
    refine dw_or (k1 := !isNum (.int (e : Nat))) (dt_not (dt_val (de_call FN (hr.mono hkn) rfl gN kN bN (l := [(.val, .int (e : Nat))]) (da_cons (m := .val) (by kct_strs) (da_nil rfl)) (.int (e : Nat)) rfl rfl rfl rfl))) fun _ => dw_or1 (dt_not ?_)
    exact dt_le3 (m1 := .val) (m2 := .val) (m3 := .val) (m4 := .val) (by repeat' tb_rel) (by kct_strs) (by kct_strs) (DE.cast (d := .int ((ps.map D.int).length : Nat)) (by repeat' tb_rel) (by rw [List.length_map]))
  · exfalso
    rw [decide_eq_true (by omega), decide_eq_true (by omega), decide_eq_true (by omega)] at h
    cases h
  refine dss_guard (k := !inD (.str (kindS ov)) [.str "over", .str "under"]) ?_ (fun h => ?_) (fun _ => ?_)
  · exact dt_cm (m1 := .val) (d1 := .str (kindS ov)) (m2 := .val) (d2 := .tup [.str "over", .str "under"]) (by kct_strs) (de_tup (l := [(.val, .str "over"), (.val, .str "under")]) (da_cons (m := .val) (by repeat' tb_rel) (da_cons (m := .val) (by repeat' tb_rel) (da_nil rfl))) rfl (by decide)) (cm_of (o_ninTD (units2 hr) rfl (kind_fl ov 8) kinds_fl) (by first | rfl | exact nomark _))
  · rw [kind_in] at h; cases h
  refine dss_cons (M := fun δ => ∃ o5, δ = [.val (drD ps ts), .val (.int (b : Nat)), .val (.int (e : Nat)), .val (.str (kindS ov)), .val (.tup (ps.map .int)), o5]) ?_ ?_
  · refine ds_forT (m := .val) (ds := ((ps.drop b).take (e - b)).map .int) (passes_of rfl) rfl ?_ rfl (dg_nm (j := 5) sc_need_stretch.nd rfl (.inl rfl))
      (fun i δ => ∃ o5, δ = [.val (drD ps ts), .val (.int (b : Nat)), .val (.int (e : Nat)), .val (.str (kindS ov)), .val (.tup (ps.map .int)), o5]) ⟨.any, rfl⟩ ?_ ?_ ?_
    · rw [← cutI_nn]
      repeat' tb_rel
    · rintro i d δ' _ ⟨_, rfl⟩
      show 5 < 6
      decide
    · rintro i d δ' hd ⟨o5, rfl⟩
      have hdm := List.mem_of_getElem? hd
      obtain ⟨x, hx, rfl⟩ := List.mem_map.mp hdm
      have hxs := hsg x hx
      have sb : -(2 ^ 64) < sgO ov ∧ sgO ov < 2 ^ 64 := by rcases sgO_pm ov with h | h <;> omega
      show DSs _ _ _ [.val (drD ps ts), .val (.int (b : Nat)), .val (.int (e : Nat)), .val (.str (kindS ov)), .val (.tup (ps.map .int)), .val (.int x)] _ _
      refine dss_one (ds_if (k := decide (x * sgO ov < 0)) ?_ (fun h => ?_) (fun _ => ?_))
      · exact dt_cm (m1 := .val) (d1 := .int (x * sgO ov)) (m2 := .val) (d2 := .int 0) (de_bin (m1 := .val) (d1 := .int x) (m2 := .val) (d2 := .int (sgO ov)) (by kct_strs) (de_kd (m := .val) rfl SG.g (by kct_strs) (SG.at ov) (fun _ _ => rfl)) (o_mul (.inr sb))) (by repeat' tb_rel) (by repeat' tb_rel)
      · have := of_decide_eq_true h
        omega
      · exact dss_nil rfl ⟨.val (.int x), rfl⟩
    · rintro δ' ⟨o5, rfl⟩
      exact ⟨o5, rfl⟩
  rintro _ ⟨o5, rfl⟩
  exact dss_nil rfl rfl
end
abbrev s_laid_on : Stmt := topS 22
theorem sc_laid_on : FnScope ["drawing", "begin", "end", "kind", "way", "arc", "step"] ["drawing", "begin", "end", "kind", "way"] (defScope s_laid_on) := ⟨rfl, rfl, rfl, by decide +kernel, rfl, by decide +kernel, by decide +kernel⟩
section
local macro_rules | `(tactic| kct_strs) => `(tactic| first
  | ((with_reducible show DE _ _ _ _ (Expr.Name "drawing" _) _); exact de_val (i := 0) rfl rfl (by kat_tups) rfl)
  | ((with_reducible show DE _ _ _ _ (Expr.Name "drawing" _) _); exact de_old (i := 0) rfl rfl (by kat_tups) rfl)
  | ((with_reducible show DE _ _ _ _ (Expr.Name "drawing" _) _); exact de_own (i := 0) rfl rfl (by kat_tups) rfl)
  | ((with_reducible show DE _ _ _ _ (Expr.Name "begin" _) _); exact de_val (i := 1) rfl rfl (by kat_tups) rfl)
  | ((with_reducible show DE _ _ _ _ (Expr.Name "begin" _) _); exact de_old (i := 1) rfl rfl (by kat_tups) rfl)
  | ((with_reducible show DE _ _ _ _ (Expr.Name "begin" _) _); exact de_own (i := 1) rfl rfl (by kat_tups) rfl)
  | ((with_reducible show DE _ _ _ _ (Expr.Name "end" _) _); exact de_val (i := 2) rfl rfl (by kat_tups) rfl)
  | ((with_reducible show DE _ _ _ _ (Expr.Name "end" _) _); exact de_old (i := 2) rfl rfl (by kat_tups) rfl)
  | ((with_reducible show DE _ _ _ _ (Expr.Name "end" _) _); exact de_own (i := 2) rfl rfl (by kat_tups) rfl)
  | ((with_reducible show DE _ _ _ _ (Expr.Name "kind" _) _); exact de_val (i := 3) rfl rfl (by kat_tups) rfl)
  | ((with_reducible show DE _ _ _ _ (Expr.Name "kind" _) _); exact de_old (i := 3) rfl rfl (by kat_tups) rfl)
  | ((with_reducible show DE _ _ _ _ (Expr.Name "kind" _) _); exact de_own (i := 3) rfl rfl (by kat_tups) rfl)
  | ((with_reducible show DE _ _ _ _ (Expr.Name "way" _) _); exact de_val (i := 4) rfl rfl (by kat_tups) rfl)
  | ((with_reducible show DE _ _ _ _ (Expr.Name "way" _) _); exact de_old (i := 4) rfl rfl (by kat_tups) rfl)
  | ((with_reducible show DE _ _ _ _ (Expr.Name "way" _) _); exact de_own (i := 4) rfl rfl (by kat_tups) rfl)
  | ((with_reducible show DE _ _ _ _ (Expr.Name "arc" _) _); exact de_val (i := 5) rfl rfl (by kat_tups) rfl)
  | ((with_reducible show DE _ _ _ _ (Expr.Name "arc" _) _); exact de_old (i := 5) rfl rfl (by kat_tups) rfl)
  | ((with_reducible show DE _ _ _ _ (Expr.Name "arc" _) _); exact de_own (i := 5) rfl rfl (by kat_tups) rfl)
  | ((with_reducible show DE _ _ _ _ (Expr.Name "step" _) _); exact de_val (i := 6) rfl rfl (by kat_tups) rfl)
  | ((with_reducible show DE _ _ _ _ (Expr.Name "step" _) _); exact de_old (i := 6) rfl rfl (by kat_tups) rfl)
  | ((with_reducible show DE _ _ _ _ (Expr.Name "step" _) _); exact de_own (i := 6) rfl rfl (by kat_tups) rfl))
theorem in_pair {s : Side} {l : List Side} (h : s ∈ l) : inD (pairD s) (l.map pairD) = true := by
  unfold inD
  rw [List.any_map]
  exact List.any_eq_true.mpr ⟨s, h, deq_refl (k := 1) (d := pairD s) rfl⟩
theorem fl_pairs (n : Nat) (l : List Side) : fl (n + 2) (.lst (l.map pairD)) = true := by
  show (l.map pairD).all (fl (n + 1)) = true
  rw [List.all_map]
  exact List.all_eq_true.mpr fun s _ => by
    show (fl n (.int s.1) && (fl n (.int s.2) && true)) = true
    cases n <;> rfl
abbrev LayT := (List Int × List Int) × Nat × Nat × Bool × List Side
abbrev stA (ps ts : List Int) (b e : Nat) : Ast := (rowM ps b e, keptM ps ts b e, (rowM ps b e).length)
structure LyOk (ps ts : List Int) (b e : Nat) (ov : Bool) (way : List Side) : Prop where
  ns : NsOk ps ts b e ov
  wy : WayOk (sgO ov) (stA ps ts b e) way
  sz : ts.length + way.length ≤ 40
theorem way_take {sg : Int} : ∀ {w : List Side} {a : Ast} {i : Nat} {s : Side}, WayOk sg a w → w[i]? = some s → s ∈ openA (layA sg a (w.take i))
  | [], _, _, _, _, h => by simp at h
  | s0 :: w, a, 0, s, h, e => by
    simp at e; subst e
    exact h.1
  | s0 :: w, a, i + 1, s, h, e => way_take (w := w) (a := crossA sg a s0) h.2 (by simpa using e)
theorem way_pre {sg : Int} : ∀ {w : List Side} {a : Ast} (i : Nat), WayOk sg a w → WayOk sg a (w.take i)
  | [], _, _, _ => by simp; trivial
  | s0 :: w, a, 0, h => trivial
  | s0 :: w, a, i + 1, h => ⟨h.1, way_pre i h.2⟩
theorem lay_tn (sg : Int) : ∀ (w : List Side) (a : Ast), (layA sg a w).2.1.length ≤ a.2.1.length + w.length
  | [], _ => Nat.le_refl _
  | s :: w, a => by
    have h1 := lay_tn sg w (crossA sg a s)
    have h2 : (crossA sg a s).2.1.length ≤ a.2.1.length + 1 := dput_length _ _ _
    show (layA sg (crossA sg a s) w).2.1.length ≤ _
    rw [List.length_cons]; omega
theorem NsOk.st {ps ts : List Int} {b e : Nat} {ov : Bool} (h : NsOk ps ts b e ov) : StOk (stA ps ts b e) ∧ ps.length = 2 * ts.length ∧ ts.length ≤ 40 := by
  obtain ⟨ps', ts', e0, hl40, hl2, hap, hpm, _⟩ := isDrw_dr h.dr
  have e0' : ps' = ps ∧ ts' = ts := by
    unfold drD at e0
    simp only [D.tup.injEq, List.cons.injEq, and_true] at e0
    have a := congrArg intsD e0.1
    have b := congrArg intsD e0.2
    rw [intsD_map, intsD_map] at a b
    exact ⟨a.symm, b.symm⟩
  obtain ⟨rfl, rfl⟩ := e0'
  exact ⟨start_ok hap hl2 hpm h.be, hl2, hl40⟩
theorem rowM_len (ps : List Int) (b e : Nat) (h : b ≤ e) : (rowM ps b e).length ≤ ps.length + 1 := by
  unfold rowM
  refine Nat.le_trans (List.length_filter_le _ _) ?_
  simp; omega
theorem LyOk.at {ps ts : List Int} {b e : Nat} {ov : Bool} {way : List Side} (h : LyOk ps ts b e ov way) (i : Nat) : StOk (layA (sgO ov) (stA ps ts b e) (way.take i)) ∧ (layA (sgO ov) (stA ps ts b e) (way.take i)).1.length ≤ 200 ∧ (layA (sgO ov) (stA ps ts b e) (way.take i)).2.1.length ≤ 40 := by
  obtain ⟨h1, h2, h3⟩ := h.ns.st
  have hs := h.sz
  have ht : (way.take i).length ≤ way.length := by rw [List.length_take]; exact Nat.min_le_right _ _
  refine ⟨lay_ok (sgO_pm ov) h1 (way_pre i h.wy), ?_, ?_⟩
  · rw [lay_len.1]
    have : (stA ps ts b e).1.length ≤ ps.length + 1 := rowM_len ps b e h.ns.be
    omega
  · have := lay_tn (sgO ov) (way.take i) (stA ps ts b e)
    have h4 : (stA ps ts b e).2.1.length ≤ ts.length := keptP_len _ _ _
    omega
abbrev encLa (lt : Bool) : LayT → List D := fun a => [drD a.1.1 a.1.2, .int (a.2.1 : Nat), .int (a.2.2.1 : Nat), .str (kindS a.2.2.2.1), if lt = true then .lst (a.2.2.2.2.map pairD) else .tup (a.2.2.2.2.map pairD)]
abbrev preLa : LayT → Prop := fun a => LyOk a.1.1 a.1.2 a.2.1 a.2.2.1 a.2.2.2.1 a.2.2.2.2
abbrev layT (a : LayT) : Ast := layA (sgO a.2.2.2.1) (stA a.1.1 a.1.2 a.2.1 a.2.2.1) a.2.2.2.2
abbrev astD (a : Ast) : D := .arc a.1 a.2.1 (a.2.2 : Nat)
local macro_rules | `(tactic| keq_hits) => `(tactic| first
  | ((with_reducible show DE _ _ _ _ (Expr.Attribute _ "row" _) _); refine' de_row A' ?_ rfl)
  | ((with_reducible show DE _ _ _ _ (Expr.Attribute _ "turns" _) _); refine' de_turns A' ?_ rfl)
  | ((with_reducible show DE _ _ _ _ (Expr.Name "MOST" _) _); exact de_globI' rfl rfl T.c_MOST))
theorem ok_laid (lt : Bool) {f fC fO fX : Addr} {fd fdC fdO fdX : FuncData} {kc ko kx : Nat} {aS : Addr} (T : Tx mg) (A' : ArcC K C) (SG : Sg w K mg aS) (F : Fun K "laid_on" "laid_on" s_laid_on f fd)
    (FC : FnOk P w K mg base (L2.CX P w) kc fC fdC ["drawing", "begin", "end"] (spT K C [.bor, .val, .val] encCu preCu outCu)) (gC : mg "cut_open" = some (.ref fC)) (kC : PySem.W.keepIn K (.ref fC) = true) (bC : Binds K fdC ["drawing", "begin", "end"] []) (hkc : kc ≤ k)
    (FO : FnOk P w K mg base (L2.CX P w) ko fO fdO ["self"] (spT K C [.bor] encOp preOp outOp)) (mO : Meth K C "open_steps" fO) (bO : Binds K fdO ["self"] []) (hko : ko ≤ k)
    (FX : FnOk P w K mg base (L2.CX P w) kx fX fdX ["self", "gap", "way", "sign"] (spCross C)) (mX : Meth K C "cross" fX) (bX : Binds K fdX ["self", "gap", "way", "sign"] []) (hkx : kx ≤ k) :
    FnOk P w K mg base (L2.CX P w) (k + 1) f fd ["drawing", "begin", "end", "kind", "way"] (spT K C [.val, .val, .val, .val, .val] (encLa lt) preLa (fun a => .ret .val (astD (layT a)))) := by
  refine ok_of F sc_laid_on rfl fun cdv A outer s H E hr Hb a hp => ?_
  obtain ⟨⟨ps, ts⟩, b, e, ov, way⟩ := a
  have hp : LyOk ps ts b e ov way := hp
  obtain ⟨hst, hl2, hl40⟩ := hp.ns.st
  have hu := hu_of hr
  generalize hwd : (if lt = true then D.lst (way.map pairD) else D.tup (way.map pairD)) = wd
  show DSs _ _ _ [.val (drD ps ts), .val (.int (b : Nat)), .val (.int (e : Nat)), .val (.str (kindS ov)), .val (if lt = true then D.lst (way.map pairD) else D.tup (way.map pairD)), .any, .any] _ (poOf (.ret .val (astD (layA (sgO ov) (stA ps ts b e) way))))
  rw [hwd]
  refine dss_seq (ds_own (i := 5) (d := astD (stA ps ts b e)) (de_call FC (hr.mono hkc) rfl gC kC bC (l := [(.val, drD ps ts), (.val, .int (b : Nat)), (.val, .int (e : Nat))]) (da_cons (m := .val) (by kct_strs) (da_cons (m := .val) (by kct_strs) (da_cons (m := .val) (by kct_strs) (da_nil rfl)))) ((ps, ts), b, e) rfl rfl ⟨by show ps.length ≤ 1000; omega, by show ts.length ≤ 1000; omega⟩ rfl) sc_laid_on.nd rfl (.inl rfl) (by o_fieldsN) rfl) ?_
  show DSs _ _ _ [.val (drD ps ts), .val (.int (b : Nat)), .val (.int (e : Nat)), .val (.str (kindS ov)), .val wd, .own (astD (stA ps ts b e)), .any] _ _
  refine dss_cons (M := fun δ => ∃ o6, δ = [.val (drD ps ts), .val (.int (b : Nat)), .val (.int (e : Nat)), .val (.str (kindS ov)), .val wd, .own (astD (layA (sgO ov) (stA ps ts b e) way)), o6]) ?_ ?_
  · cases lt with
    | true =>
      refine ds_forL (m := .val) (ds := way.map pairD) (passes_of rfl) rfl (DE.cast (d := wd) (by kct_strs) hwd.symm) rfl (dg_nm (j := 6) sc_laid_on.nd rfl (.inl rfl))
        (fun i δ => ∃ o6, δ = [.val (drD ps ts), .val (.int (b : Nat)), .val (.int (e : Nat)), .val (.str (kindS ov)), .val wd, .own (astD (layA (sgO ov) (stA ps ts b e) (way.take i))), o6]) ⟨.any, rfl⟩ ?_ ?_ ?_
      · rintro i d δ' _ ⟨_, rfl⟩
        show 6 < 7
        decide
      · rintro i d δ' hd ⟨o6, rfl⟩
        rw [List.getElem?_map] at hd
        obtain ⟨s', hs', rfl⟩ := Option.map_eq_some_iff.mp hd
        have hmem := way_take hp.wy hs'
        obtain ⟨hso, hrl, htl⟩ := hp.at i
        have hnext : layA (sgO ov) (stA ps ts b e) (way.take (i + 1)) = crossA (sgO ov) (layA (sgO ov) (stA ps ts b e) (way.take i)) s' := by
          rw [List.take_add_one, hs', Option.toList_some, layA_snoc]
        obtain ⟨_, _, htl'⟩ := hp.at (i + 1)
        rw [hnext] at htl' ⊢
        generalize layA (sgO ov) (stA ps ts b e) (way.take i) = st at *
        obtain ⟨row, tn, n⟩ := st
        obtain ⟨g, wy⟩ := s'
        obtain ⟨⟨h1, h2, h3⟩, _⟩ := open_mem.mp hmem
        have h1 : 0 ≤ g := h1
        have h2 : g ≤ (n : Nat) := h2
        have h3 : wy = 1 ∨ wy = -1 := h3
        have hnr : n ≤ row.length := hso.nle
        have hrl : row.length ≤ 200 := hrl
        have htl : tn.length ≤ 40 := htl
        have htl' : (crossTn tn wy (sgO ov)).length ≤ 40 := htl'
        show DSs _ _ _ [.val (drD ps ts), .val (.int (b : Nat)), .val (.int (e : Nat)), .val (.str (kindS ov)), .val wd, .own (.arc row tn (n : Nat)), .val (pairD (g, wy))] _ _
        refine dss_guard (k := !inD (pairD (g, wy)) ((openM row tn n).map pairD)) ?_ (fun h => ?_) (fun _ => ?_)
        · exact dt_cm (m1 := .val) (d1 := pairD (g, wy)) (m2 := .val) (d2 := .lst ((openM row tn n).map pairD)) (by kct_strs) (de_meth0 A'.cl mO FO (hr.mono hko) bO (row := row) (turns := tn) (n := (n : Nat)) (by kct_strs) (fun _ _ => rfl) (row, tn, n) rfl ⟨by show row.length ≤ 1000; omega, hso.ar.wf, hnr⟩ rfl) (cm_of (o_ninLD (units2 hr) rfl rfl (fl_pairs 6 _)) (by first | rfl | exact nomark _))
        · have hin : inD (pairD (g, wy)) ((openM row tn n).map pairD) = true := in_pair hmem
          rw [hin] at h; cases h
        refine dss_seq (ds_cross (i := 5) (m1 := .val) (m2 := .val) (m3 := .val) (gap := g) (way := wy) (sign := sgO ov) rfl (by kat_tups) rfl A'.cl mX FX (hr.mono hkx) bX ?_ ⟨h1, by omega, by omega, by omega, sgO_pm ov, h3⟩ rfl) ?_
        · exact da_cons (m := .val) (de_ix (m1 := .val) (d1 := pairD (g, wy)) (m2 := .val) (d2 := .int 0) (by kct_strs) (by repeat' tb_rel) (ix_t rfl) (fun _ _ => rfl)) (da_cons (m := .val) (de_ix (m1 := .val) (d1 := pairD (g, wy)) (m2 := .val) (d2 := .int 1) (by kct_strs) (by repeat' tb_rel) (ix_t rfl) (fun _ _ => rfl)) (da_cons (m := .val) (de_kd (m := .val) rfl SG.g (by kct_strs) (SG.at ov) (fun _ _ => rfl)) (da_nil rfl)))
        show DSs _ _ _ [.val (drD ps ts), .val (.int (b : Nat)), .val (.int (e : Nat)), .val (.str (kindS ov)), .val wd, .own (.arc (crossRow row tn g (sgO ov)) (crossTn tn wy (sgO ov)) ((n : Nat) + 1)), .val (pairD (g, wy))] _ _
        refine dss_one (ds_if (k := decide ((40 : Int) < ((iv (crossTn tn wy (sgO ov))).length : Nat))) (by repeat' tb_rel) (fun h => ?_) (fun _ => ?_))
        · exfalso
          rw [List.length_map] at h
          have := of_decide_eq_true h
          omega
        · exact dss_nil rfl ⟨.val (pairD (g, wy)), rfl⟩
      · rintro δ' ⟨o6, rfl⟩
        refine ⟨o6, ?_⟩
        rw [List.length_map, List.take_length]
    | false =>
      refine ds_forT (m := .val) (ds := way.map pairD) (passes_of rfl) rfl (DE.cast (d := wd) (by kct_strs) hwd.symm) rfl (dg_nm (j := 6) sc_laid_on.nd rfl (.inl rfl))
        (fun i δ => ∃ o6, δ = [.val (drD ps ts), .val (.int (b : Nat)), .val (.int (e : Nat)), .val (.str (kindS ov)), .val wd, .own (astD (layA (sgO ov) (stA ps ts b e) (way.take i))), o6]) ⟨.any, rfl⟩ ?_ ?_ ?_
      · rintro i d δ' _ ⟨_, rfl⟩
        show 6 < 7
        decide
      · rintro i d δ' hd ⟨o6, rfl⟩
        rw [List.getElem?_map] at hd
        obtain ⟨s', hs', rfl⟩ := Option.map_eq_some_iff.mp hd
        have hmem := way_take hp.wy hs'
        obtain ⟨hso, hrl, htl⟩ := hp.at i
        have hnext : layA (sgO ov) (stA ps ts b e) (way.take (i + 1)) = crossA (sgO ov) (layA (sgO ov) (stA ps ts b e) (way.take i)) s' := by
          rw [List.take_add_one, hs', Option.toList_some, layA_snoc]
        obtain ⟨_, _, htl'⟩ := hp.at (i + 1)
        rw [hnext] at htl' ⊢
        generalize layA (sgO ov) (stA ps ts b e) (way.take i) = st at *
        obtain ⟨row, tn, n⟩ := st
        obtain ⟨g, wy⟩ := s'
        obtain ⟨⟨h1, h2, h3⟩, _⟩ := open_mem.mp hmem
        have h1 : 0 ≤ g := h1
        have h2 : g ≤ (n : Nat) := h2
        have h3 : wy = 1 ∨ wy = -1 := h3
        have hnr : n ≤ row.length := hso.nle
        have hrl : row.length ≤ 200 := hrl
        have htl : tn.length ≤ 40 := htl
        have htl' : (crossTn tn wy (sgO ov)).length ≤ 40 := htl'
        show DSs _ _ _ [.val (drD ps ts), .val (.int (b : Nat)), .val (.int (e : Nat)), .val (.str (kindS ov)), .val wd, .own (.arc row tn (n : Nat)), .val (pairD (g, wy))] _ _
        refine dss_guard (k := !inD (pairD (g, wy)) ((openM row tn n).map pairD)) ?_ (fun h => ?_) (fun _ => ?_)
        · exact dt_cm (m1 := .val) (d1 := pairD (g, wy)) (m2 := .val) (d2 := .lst ((openM row tn n).map pairD)) (by kct_strs) (de_meth0 A'.cl mO FO (hr.mono hko) bO (row := row) (turns := tn) (n := (n : Nat)) (by kct_strs) (fun _ _ => rfl) (row, tn, n) rfl ⟨by show row.length ≤ 1000; omega, hso.ar.wf, hnr⟩ rfl) (cm_of (o_ninLD (units2 hr) rfl rfl (fl_pairs 6 _)) (by first | rfl | exact nomark _))
        · have hin : inD (pairD (g, wy)) ((openM row tn n).map pairD) = true := in_pair hmem
          rw [hin] at h; cases h
        refine dss_seq (ds_cross (i := 5) (m1 := .val) (m2 := .val) (m3 := .val) (gap := g) (way := wy) (sign := sgO ov) rfl (by kat_tups) rfl A'.cl mX FX (hr.mono hkx) bX ?_ ⟨h1, by omega, by omega, by omega, sgO_pm ov, h3⟩ rfl) ?_
        · exact da_cons (m := .val) (de_ix (m1 := .val) (d1 := pairD (g, wy)) (m2 := .val) (d2 := .int 0) (by kct_strs) (by repeat' tb_rel) (ix_t rfl) (fun _ _ => rfl)) (da_cons (m := .val) (de_ix (m1 := .val) (d1 := pairD (g, wy)) (m2 := .val) (d2 := .int 1) (by kct_strs) (by repeat' tb_rel) (ix_t rfl) (fun _ _ => rfl)) (da_cons (m := .val) (de_kd (m := .val) rfl SG.g (by kct_strs) (SG.at ov) (fun _ _ => rfl)) (da_nil rfl)))
        show DSs _ _ _ [.val (drD ps ts), .val (.int (b : Nat)), .val (.int (e : Nat)), .val (.str (kindS ov)), .val wd, .own (.arc (crossRow row tn g (sgO ov)) (crossTn tn wy (sgO ov)) ((n : Nat) + 1)), .val (pairD (g, wy))] _ _
        refine dss_one (ds_if (k := decide ((40 : Int) < ((iv (crossTn tn wy (sgO ov))).length : Nat))) (by repeat' tb_rel) (fun h => ?_) (fun _ => ?_))
        · exfalso
          rw [List.length_map] at h
          have := of_decide_eq_true h
          omega
        · exact dss_nil rfl ⟨.val (pairD (g, wy)), rfl⟩
      · rintro δ' ⟨o6, rfl⟩
        refine ⟨o6, ?_⟩
        rw [List.length_map, List.take_length]
  rintro _ ⟨o6, rfl⟩
  refine dss_frz 5 rfl ?_
  exact dss_one (ds_ret (m := .val) (d := astD (layA (sgO ov) (stA ps ts b e) way)) (by kct_strs) rfl rfl)
end
/-! ### numbered, of lists and dicts -/
section
local macro_rules | `(tactic| kct_strs) => `(tactic| first
  | ((with_reducible show DE _ _ _ _ (Expr.Name "row" _) _); exact de_val (i := 0) rfl rfl (by kat_tups) rfl)
  | ((with_reducible show DE _ _ _ _ (Expr.Name "row" _) _); exact de_old (i := 0) rfl rfl (by kat_tups) rfl)
  | ((with_reducible show DE _ _ _ _ (Expr.Name "row" _) _); exact de_own (i := 0) rfl rfl (by kat_tups) rfl)
  | ((with_reducible show DE _ _ _ _ (Expr.Name "turns" _) _); exact de_val (i := 1) rfl rfl (by kat_tups) rfl)
  | ((with_reducible show DE _ _ _ _ (Expr.Name "turns" _) _); exact de_old (i := 1) rfl rfl (by kat_tups) rfl)
  | ((with_reducible show DE _ _ _ _ (Expr.Name "turns" _) _); exact de_own (i := 1) rfl rfl (by kat_tups) rfl)
  | ((with_reducible show DE _ _ _ _ (Expr.Name "numbers" _) _); exact de_val (i := 2) rfl rfl (by kat_tups) rfl)
  | ((with_reducible show DE _ _ _ _ (Expr.Name "numbers" _) _); exact de_old (i := 2) rfl rfl (by kat_tups) rfl)
  | ((with_reducible show DE _ _ _ _ (Expr.Name "numbers" _) _); exact de_own (i := 2) rfl rfl (by kat_tups) rfl)
  | ((with_reducible show DE _ _ _ _ (Expr.Name "passes" _) _); exact de_val (i := 3) rfl rfl (by kat_tups) rfl)
  | ((with_reducible show DE _ _ _ _ (Expr.Name "passes" _) _); exact de_old (i := 3) rfl rfl (by kat_tups) rfl)
  | ((with_reducible show DE _ _ _ _ (Expr.Name "passes" _) _); exact de_own (i := 3) rfl rfl (by kat_tups) rfl)
  | ((with_reducible show DE _ _ _ _ (Expr.Name "found" _) _); exact de_val (i := 4) rfl rfl (by kat_tups) rfl)
  | ((with_reducible show DE _ _ _ _ (Expr.Name "found" _) _); exact de_old (i := 4) rfl rfl (by kat_tups) rfl)
  | ((with_reducible show DE _ _ _ _ (Expr.Name "found" _) _); exact de_own (i := 4) rfl rfl (by kat_tups) rfl)
  | ((with_reducible show DE _ _ _ _ (Expr.Name "one" _) _); exact de_val (i := 5) rfl rfl (by kat_tups) rfl)
  | ((with_reducible show DE _ _ _ _ (Expr.Name "one" _) _); exact de_old (i := 5) rfl rfl (by kat_tups) rfl)
  | ((with_reducible show DE _ _ _ _ (Expr.Name "one" _) _); exact de_own (i := 5) rfl rfl (by kat_tups) rfl))
abbrev encND : List Int × List (Int × Int) → List D := fun a => [.lst (a.1.map .int), .dk (iv a.2)]
abbrev preND : List Int × List (Int × Int) → Prop := fun a => a.1.length ≤ 1000 ∧ ∀ x ∈ a.1, ∃ t, dget a.2 (iabs x) = some t
abbrev outND : List Int × List (Int × Int) → Out := fun a => .ret .val (nmbD (tfA a.2) a.1)
theorem ok_numD {f : Addr} {fd : FuncData} (T : Tx mg) (F : Fun K "numbered" "numbered" s_numbered f fd) :
    FnOk P w K mg base (L2.CX P w) (k + 1) f fd ["row", "turns"] (spT K C [.val, .bor] encND preND outND) := by
  refine ok_of F sc_numbered rfl fun cdv A outer s H E hr Hb a hp => ?_
  obtain ⟨row, tn⟩ := a
  obtain ⟨hl, hx⟩ := hp
  have hl : row.length ≤ 1000 := hl
  have hx : ∀ x ∈ row, ∃ t, dget tn (iabs x) = some t := hx
  have hu := hu_of hr
  show DSs _ _ _ [.val (.lst (row.map .int)), .bor (.dk (iv tn)), .any, .any, .any, .any] _ _
  refine dss_seq (ds_own (i := 2) (de_dkNew rfl) sc_numbered.nd rfl (.inl rfl) (by o_fieldsN) rfl) ?_
  refine dss_seq (ds_own (i := 3) (by tb_start) sc_numbered.nd rfl (.inl rfl) (by o_fieldsN) rfl) ?_
  refine dss_seq (ds_own (i := 4) (by tb_start) sc_numbered.nd rfl (.inl rfl) (by o_fieldsN) rfl) ?_
  refine dss_cons (M := fun δ => ∃ o, δ = [.val (.lst (row.map .int)), .bor (.dk (iv tn)), .own (.dk (iv (nmb (tfA tn) row).1)), .own (.lst ((nmb (tfA tn) row).2.1.map .int)), .own (.lst ((nmb (tfA tn) row).2.2.map .int)), o]) ?_ ?_
  · refine ds_forL (passes_of rfl) rfl (by tb_start) rfl (dg_nm (j := 5) sc_numbered.nd rfl (.inl rfl))
      (fun i δ => ∃ o, δ = [.val (.lst (row.map .int)), .bor (.dk (iv tn)), .own (.dk (iv (nmb (tfA tn) (row.take i)).1)), .own (.lst ((nmb (tfA tn) (row.take i)).2.1.map .int)), .own (.lst ((nmb (tfA tn) (row.take i)).2.2.map .int)), o]) ⟨_, rfl⟩ ?_ ?_ ?_
    · rintro i d δ' _ ⟨o, rfl⟩
      show 5 < 6
      decide
    · rintro i d δ' hd ⟨o, rfl⟩
      rw [List.getElem?_map] at hd
      cases hri : row[i]? with
      | none => rw [hri] at hd; cases hd
      | some one =>
        rw [hri] at hd
        cases hd
        have hil : i < row.length := (List.getElem?_eq_some_iff.mp hri).1
        have hmem := hx one (List.mem_of_getElem? hri)
        obtain ⟨t, ht⟩ := hmem
        have htf : tfA tn (iabs one) = t := by unfold tfA; rw [ht]; rfl
        obtain ⟨n1, n2, n3⟩ := nmb_len (tfA tn) (row.take i)
        rw [List.length_take] at n1 n2 n3
        have step := nmb_succ (tfA tn) hri
        generalize hS : nmb (tfA tn) (row.take i) = S at *
        obtain ⟨kv, ps, fo⟩ := S
        simp only at n1 n2 n3
        rw [step]
        show DSs _ _ _ [.val (.lst (row.map .int)), .bor (.dk (iv tn)), .own (.dk (iv kv)), .own (.lst (ps.map .int)), .own (.lst (fo.map .int)), .val (.int one)] _ _
        refine dss_seq (δ' := [.val (.lst (row.map .int)), .bor (.dk (iv tn)), .own (.dk (iv (nStep (tfA tn) (kv, ps, fo) one).1)), .own (.lst (ps.map .int)), .own (.lst ((nStep (tfA tn) (kv, ps, fo) one).2.2.map .int)), .val (.int one)]) (ds_if (by repeat' tb_rel) ?_ ?_) ?_
        · intro h
          have h0 : (dget kv (iabs one)).isSome = false := by simpa using h
          refine dss_seq (ds_putI (i := 2) hu rfl (.inl rfl) rfl (by repeat' tb_rel) (by repeat' tb_rel) (by omega) rfl) ?_
          refine dss_one (ds_app (i := 4) rfl (.inl rfl) (ds := fo.map .int) rfl (m := .val) (d := .int t) (by repeat' tb_rel) rfl (by rw [List.length_map]; omega) ?_ )
          simp [nStep, h0, htf]
        · intro h
          have h0 : (dget kv (iabs one)).isSome = true := by simpa using h
          refine dss_nil rfl ?_
          simp [nStep, h0]
        · obtain ⟨n, hn⟩ : ∃ n, dget (nStep (tfA tn) (kv, ps, fo) one).1 (iabs one) = some n := by
            show ∃ n, dget (if (dget kv (iabs one)).isSome then kv else dput kv (iabs one) (kv.length + 1)) (iabs one) = some n
            split
            · rename_i h; exact Option.isSome_iff_exists.mp h
            · exact ⟨_, dget_same _ _ _⟩
          refine dss_one (ds_app (i := 3) rfl (.inl rfl) (ds := ps.map .int) rfl (m := .val) (d := .int (if decide (0 < one) = true then n else -n)) (by repeat' tb_rel) rfl (by rw [List.length_map]; omega) ?_ )
          refine ⟨.val (.int one), ?_⟩
          have e : (nStep (tfA tn) (kv, ps, fo) one).2.1 = ps ++ [if decide (0 < one) = true then n else -n] := by
            show ps ++ [if decide (0 < one) = true then (dget (nStep (tfA tn) (kv, ps, fo) one).1 (iabs one)).getD 0 else -(dget (nStep (tfA tn) (kv, ps, fo) one).1 (iabs one)).getD 0] = _
            rw [hn]; rfl
          rw [e, List.map_append]
          rfl
    · rintro δ' ⟨o, rfl⟩
      refine ⟨o, ?_⟩
      rw [List.length_map, List.take_length]
  · rintro _ ⟨o, rfl⟩
    refine' dss_one (ds_retE (d' := nmbD (tfA tn) row) ?_ ?_ ?_ rfl)
    repeat' tb_rel
    all_goals rfl
end
section
local macro_rules | `(tactic| kct_strs) => `(tactic| first
  | ((with_reducible show DE _ _ _ _ (Expr.Name "_law_row" _) _); exact de_val (i := 0) rfl rfl (by kat_tups) rfl)
  | ((with_reducible show DE _ _ _ _ (Expr.Name "_law_row" _) _); exact de_old (i := 0) rfl rfl (by kat_tups) rfl)
  | ((with_reducible show DE _ _ _ _ (Expr.Name "_law_row" _) _); exact de_own (i := 0) rfl rfl (by kat_tups) rfl)
  | ((with_reducible show DE _ _ _ _ (Expr.Name "_law_turns" _) _); exact de_val (i := 1) rfl rfl (by kat_tups) rfl)
  | ((with_reducible show DE _ _ _ _ (Expr.Name "_law_turns" _) _); exact de_old (i := 1) rfl rfl (by kat_tups) rfl)
  | ((with_reducible show DE _ _ _ _ (Expr.Name "_law_turns" _) _); exact de_own (i := 1) rfl rfl (by kat_tups) rfl)
  | ((with_reducible show DE _ _ _ _ (Expr.Name "_law_order" _) _); exact de_val (i := 2) rfl rfl (by kat_tups) rfl)
  | ((with_reducible show DE _ _ _ _ (Expr.Name "_law_order" _) _); exact de_old (i := 2) rfl rfl (by kat_tups) rfl)
  | ((with_reducible show DE _ _ _ _ (Expr.Name "_law_order" _) _); exact de_own (i := 2) rfl rfl (by kat_tups) rfl)
  | ((with_reducible show DE _ _ _ _ (Expr.Name "_law_one" _) _); exact de_val (i := 3) rfl rfl (by kat_tups) rfl)
  | ((with_reducible show DE _ _ _ _ (Expr.Name "_law_one" _) _); exact de_old (i := 3) rfl rfl (by kat_tups) rfl)
  | ((with_reducible show DE _ _ _ _ (Expr.Name "_law_one" _) _); exact de_own (i := 3) rfl rfl (by kat_tups) rfl)
  | ((with_reducible show DE _ _ _ _ (Expr.Name "_law_passes" _) _); exact de_val (i := 4) rfl rfl (by kat_tups) rfl)
  | ((with_reducible show DE _ _ _ _ (Expr.Name "_law_passes" _) _); exact de_old (i := 4) rfl rfl (by kat_tups) rfl)
  | ((with_reducible show DE _ _ _ _ (Expr.Name "_law_passes" _) _); exact de_own (i := 4) rfl rfl (by kat_tups) rfl)
  | ((with_reducible show DE _ _ _ _ (Expr.Name "_law_number" _) _); exact de_val (i := 5) rfl rfl (by kat_tups) rfl)
  | ((with_reducible show DE _ _ _ _ (Expr.Name "_law_number" _) _); exact de_old (i := 5) rfl rfl (by kat_tups) rfl)
  | ((with_reducible show DE _ _ _ _ (Expr.Name "_law_number" _) _); exact de_own (i := 5) rfl rfl (by kat_tups) rfl))
abbrev outLD : List Int × List (Int × Int) → Out := fun a => .ret .val (drD (lnP a.1) (lnT (tfA a.2) a.1))
theorem ok_lnumD {f : Addr} {fd : FuncData} (T : Tx mg) (F : Fun K "_law_numbered" "_law_numbered" s_law_numbered f fd) :
    FnOk P w K mg base (L2.CX P w) (k + 1) f fd ["_law_row", "_law_turns"] (spT K C [.val, .val] encND preND outLD) := by
  refine ok_of F sc_law_numbered rfl fun cdv A outer s H E hr Hb a hp => ?_
  obtain ⟨row, tn⟩ := a
  obtain ⟨hl, hx⟩ := hp
  have hl : row.length ≤ 1000 := hl
  have hx : ∀ x ∈ row, ∃ t, dget tn (iabs x) = some t := hx
  have hu := hu_of hr
  show DSs _ _ _ [.val (.lst (row.map .int)), .val (.dk (iv tn)), .any, .any, .any, .any] _ _
  refine dss_seq (ds_own (i := 2) (by repeat' tb_rel) sc_law_numbered.nd rfl (by first | exact Or.inl rfl | exact Or.inr rfl) (by o_fieldsN) rfl) ?_
  refine dss_cons (M := fun δ => ∃ (o : Sl), δ = [.val (.lst (row.map .int)), .val (.dk (iv tn)), .own (.lst ((ordM row).map .int)), o, .any, .any]) ?_ ?_
  · refine ds_forL (passes_of rfl) rfl (by tb_start) rfl (dg_nm (j := 3) sc_law_numbered.nd rfl (.inl rfl))
      (fun i δ => ∃ (o : Sl), δ = [.val (.lst (row.map .int)), .val (.dk (iv tn)), .own (.lst ((ordM (row.take i)).map .int)), o, .any, .any]) ⟨.any, rfl⟩ ?_ ?_ ?_
    · rintro i d δ' _ ⟨o, rfl⟩
      show 3 < 6
      decide
    · rintro i d δ' hd ⟨o, rfl⟩
      rw [List.getElem?_map] at hd
      cases hri : row[i]? with
      | none => rw [hri] at hd; cases hd
      | some one =>
        rw [hri] at hd
        cases hd
        have hsu := ordM_succ hri
        have hol := ordM_len (row.take i)
        rw [List.length_take] at hol
        rw [hsu]
        generalize ordM (row.take i) = od at *
        show DSs _ _ _ [.val (.lst (row.map .int)), .val (.dk (iv tn)), .own (.lst (od.map .int)), .val (.int one), .any, .any] _ _
        refine dss_one (ds_if (k := !decide (iabs one ∈ od)) (by repeat' tb_rel) (fun h => ?_) (fun h => ?_))
        · have h0 : ¬ iabs one ∈ od := by simpa using h
          refine dss_one (ds_app (i := 2) rfl (by kat_tups) (ds := od.map .int) rfl (m := .val) (d := .int (iabs one)) (by repeat' tb_rel) rfl (by rw [List.length_map]; omega) ?_)
          refine ⟨.val (.int one), ?_⟩
          rw [if_neg h0, List.map_append]
          rfl
        · have h0 : iabs one ∈ od := by simpa using h
          exact dss_nil rfl ⟨.val (.int one), by rw [if_pos h0]⟩
    · rintro δ' ⟨o, rfl⟩
      refine ⟨o, ?_⟩
      rw [List.length_map, List.take_length]
  rintro _ ⟨o, rfl⟩
  have hol := ordM_len row
  have hml : ((row.filter fun _ => true).map fun x : Int => D.int ((((ordM row).idxOf (iabs x) : Nat) + 1 : Int) * (if decide (x < 0) = true then -1 else 1))) = (lnP row).map .int := by
    rw [List.filter_true]; unfold lnP; rw [List.map_map]; rfl
  have hmt : (((ordM row).filter fun _ => true).map fun y : Int => D.int (tfA tn y)) = (lnT (tfA tn) (row)).map .int := by
    rw [List.filter_true]; unfold lnT; rw [List.map_map]; rfl
  refine dss_seq (δ' := [.val (.lst (row.map .int)), .val (.dk (iv tn)), .own (.lst ((ordM row).map .int)), o, .val (.lst ((lnP row).map .int)), .any]) (ds_setLc (i := 4) (m := .val) (enc := D.int) (ns := row) (t := fun _ => true) (f := fun x => .int ((((ordM row).idxOf (iabs x) : Nat) + 1 : Int) * (if decide (x < 0) = true then -1 else 1))) (tg := .nm 3) (by kct_strs)
    (lcp_no (own := [("_law_one", 3)]) rfl rfl sc_law_numbered.nd (blkOk_by rfl) (fun _ _ _ _ _ => dg_nm sc_law_numbered.nd rfl (.inl rfl)) (fun a _ => by show 3 < 6; decide) (by decide) (fun x hxm _ _ _ _ _ => ?_) (by omega)) rfl rfl (by o_fieldsN) (by rw [hml]; rfl) (sw_true rfl rfl rfl rfl)) ?_
  · have hmem := mem_ordM hxm
    have hpm := atI_pm (decide (x < 0))
    have hcase : (-(2 ^ 64) < (if decide (x < 0) = true then (-1 : Int) else 1) ∧ (if decide (x < 0) = true then (-1 : Int) else 1) < 2 ^ 64) := by split <;> decide
    refine de_bin (m1 := .val) (d1 := .int (((ordM row).idxOf (iabs x) : Nat) + 1)) (m2 := .val) (d2 := .int (if decide (x < 0) = true then -1 else 1)) ?_ ?_ (o_mul (.inr hcase))
    · exact de_bin (m1 := .val) (d1 := .int ((ordM row).idxOf (iabs x) : Nat)) (m2 := .val) (d2 := .int 1) (de_index (m1 := .sh) (m2 := .val) (by kct_strs) (by repeat' tb_rel) hmem) (by repeat' tb_rel) o_add
    · exact de_ix (m1 := .fr) (d1 := .lst [.int 1, .int (-1)]) (m2 := .val) (d2 := .int (if decide (x < 0) = true then 1 else 0)) (de_lst (l := [(.val, .int 1), (.val, .int (-1))]) (da_cons (m := .val) (by repeat' tb_rel) (da_cons (m := .val) (by repeat' tb_rel) (da_nil rfl))) rfl (by decide)) (by repeat' tb_rel) (ix_l hpm) (fun _ _ => rfl)
  refine dss_one (ds_retE (m := .val) (d := .tup [.tup ((lnP row).map .int), .tup ((lnT (tfA tn) row).map .int)]) (d' := .tup [.tup ((lnP row).map .int), .tup ((lnT (tfA tn) row).map .int)]) ?_ rfl rfl rfl)
  refine de_tup (l := [(.val, .tup ((lnP row).map .int)), (.val, .tup ((lnT (tfA tn) row).map .int))]) (da_cons (m := .val) (by repeat' tb_rel) (da_cons (m := .val) ?_ (da_nil rfl))) rfl (by o_fieldsN)
  rw [← hmt]
  refine de_callTy (T := "tuple") (da_cons (m := .fr) (de_lcL (m := .sh) (enc := D.int) (ns := ordM row) (t := fun _ => true) (f := fun y => .int (tfA tn y)) (tg := .nm 5) (by kct_strs) (lcp_no (own := [("_law_number", 5)]) rfl rfl sc_law_numbered.nd (blkOk_by rfl) (fun _ _ _ _ _ => dg_nm sc_law_numbered.nd rfl (.inl rfl)) (fun a _ => by show 5 < 6; decide) (by decide) (fun y hy _ _ _ _ _ => ?_) (by omega))) (da_nil rfl)) (c_tupL (.inl rfl)) rfl T.b_tuple boot_tuple
  obtain ⟨x, hxm, rfl⟩ := ordM_mem hy
  obtain ⟨t, ht⟩ := hx x hxm
  have htf : tfA tn (iabs x) = t := by unfold tfA; rw [ht]; rfl
  rw [htf]
  repeat' tb_rel
end
/-! ### lay -/
abbrev s_Arc_joined : Stmt := inClass (topS 3) 6
theorem sc_Arc_joined : FnScope ["self", "at"] ["self"] (defScope s_Arc_joined) := ⟨rfl, rfl, rfl, by decide +kernel, rfl, by decide +kernel, by decide +kernel⟩
section
local macro_rules | `(tactic| kct_strs) => `(tactic| first
  | ((with_reducible show DE _ _ _ _ (Expr.Name "self" _) _); exact de_val (i := 0) rfl rfl (by kat_tups) rfl)
  | ((with_reducible show DE _ _ _ _ (Expr.Name "self" _) _); exact de_old (i := 0) rfl rfl (by kat_tups) rfl)
  | ((with_reducible show DE _ _ _ _ (Expr.Name "self" _) _); exact de_own (i := 0) rfl rfl (by kat_tups) rfl)
  | ((with_reducible show DE _ _ _ _ (Expr.Name "at" _) _); exact de_val (i := 1) rfl rfl (by kat_tups) rfl)
  | ((with_reducible show DE _ _ _ _ (Expr.Name "at" _) _); exact de_old (i := 1) rfl rfl (by kat_tups) rfl)
  | ((with_reducible show DE _ _ _ _ (Expr.Name "at" _) _); exact de_own (i := 1) rfl rfl (by kat_tups) rfl))
theorem nmbD_ln {tf : Int → Int} {row : List Int} (h : ∀ x ∈ row, x ≠ 0) : nmbD tf row = drD (lnP row) (lnT tf row) := by
  have hn := nmOk tf row h
  show drD (nmb tf row).2.1 (nmb tf row).2.2 = _
  rw [hn.ps, hn.ts]
abbrev joD (a : Ast) : D := drD (lnP (joinX a.1)) (lnT (tfA a.2.1) (joinX a.1))
structure JoOk (a : Ast) : Prop where
  st : StOk a
  len : a.1.length ≤ 400
  tn : a.2.1.length ≤ 400
abbrev outJo : Ast → Out := fun a => .ret .val (joD a)
local macro_rules | `(tactic| keq_hits) => `(tactic| first
  | ((with_reducible show DE _ _ _ _ (Expr.Attribute _ "row" _) _); refine' de_row A' ?_ rfl)
  | ((with_reducible show DE _ _ _ _ (Expr.Attribute _ "turns" _) _); refine' de_turns A' ?_ rfl)
  | ((with_reducible show DE _ _ _ _ (Expr.Name "MARK" _) _); exact de_globI' rfl rfl T.c_MARK))
theorem ok_joined {f fN : Addr} {fd fdN : FuncData} {kn : Nat} (T : Tx mg) (A' : ArcC K C) (F : Fun K "joined" "Arc.joined" s_Arc_joined f fd)
    (FN : FnOk P w K mg base (L2.CX P w) kn fN fdN ["row", "turns"] (spT K C [.val, .bor] encND preND outND)) (gN : mg "numbered" = some (.ref fN)) (kN : PySem.W.keepIn K (.ref fN) = true) (bN : Binds K fdN ["row", "turns"] []) (hkn : kn ≤ k) :
    FnOk P w K mg base (L2.CX P w) (k + 1) f fd ["self"] (spT K C [.bor] encOp JoOk outJo) := by
  refine ok_of F sc_Arc_joined rfl fun cdv A outer s H E hr Hb a hp => ?_
  obtain ⟨row, tn, n⟩ := a
  obtain ⟨hst, hl, htl⟩ := hp
  have hl : row.length ≤ 400 := hl
  have hz : (0 : Int) ∈ row := hst.zero
  have hlt := List.idxOf_lt_length_of_mem hz
  obtain ⟨P1, A1, hjl, htn⟩ := join_ps hst
  have hjl : (joinX row).length + 1 = row.length := hjl
  have htn : ∀ x ∈ joinX row, ∃ t, dget tn (iabs x) = some t ∧ (t = 1 ∨ t = -1) := htn
  show DSs _ _ _ [.bor (.arc row tn (n : Nat)), .any] _ (poOf (.ret .val (drD (lnP (joinX row)) (lnT (tfA tn) (joinX row)))))
  refine dss_seq (ds_set (i := 1) (m := .val) (d := .int (row.idxOf 0 : Nat)) (de_index (m1 := .bor) (m2 := .val) (ns := row) (i := 0) (by repeat' tb_rel) (by repeat' tb_rel) hz) rfl sc_Arc_joined.nd rfl (.inl rfl) (by o_fieldsN) rfl) ?_
  have hnx : ∀ x ∈ joinX row, x ≠ 0 := P1.nz
  have ej : joinX row = cutI row (some ((row.idxOf 0 + 1 : Nat) : Int)) none ++ cutI row none (some (row.idxOf 0 : Int)) := by rw [cutI_from, cutI_to]; rfl
  refine dss_one (ds_retE (m := .val) (d := nmbD (tfA tn) (joinX row)) (d' := drD (lnP (joinX row)) (lnT (tfA tn) (joinX row))) ?_ rfl (nmbD_ln hnx) rfl)
  refine de_call FN (hr.mono hkn) rfl gN kN bN (l := [(.val, .lst ((joinX row).map .int)), (.bor, .dk (iv tn))]) ?_ (joinX row, tn) rfl rfl ⟨by show (joinX row).length ≤ 1000; omega, fun x hx => by obtain ⟨t, h, _⟩ := htn x hx; exact ⟨t, h⟩⟩ rfl
  refine da_consV (m := .fr) ?_ rfl (da_cons (m := .bor) (by repeat' tb_rel) (da_nil rfl))
  rw [ej]
  generalize row.idxOf 0 = at_ at *
  refine de_bin (m1 := .fr) (d1 := .lst ((cutI row (some ((at_ + 1 : Nat) : Int)) none).map .int)) (m2 := .fr) (d2 := .lst ((cutI row none (some (at_ : Int))).map .int)) ?_ (by repeat' tb_rel) (o_catI (by unfold cutI; simp; omega))
  refine de_sl (m1 := .bor) (d1 := .lst (row.map .int)) (by repeat' tb_rel) (do_some (DE.cast (d := .int ((at_ : Int) + 1)) (by repeat' tb_rel) (by push_cast; rfl))) (do_none rfl) sl_lI
end
abbrev s_closed : Stmt := topS 23
theorem sc_closed : FnScope ["drawing", "begin", "end", "kind", "way", "arc"] ["drawing", "begin", "end", "kind", "way"] (defScope s_closed) := ⟨rfl, rfl, rfl, by decide +kernel, rfl, by decide +kernel, by decide +kernel⟩
section
local macro_rules | `(tactic| kct_strs) => `(tactic| first
  | ((with_reducible show DE _ _ _ _ (Expr.Name "drawing" _) _); exact de_val (i := 0) rfl rfl (by kat_tups) rfl)
  | ((with_reducible show DE _ _ _ _ (Expr.Name "drawing" _) _); exact de_old (i := 0) rfl rfl (by kat_tups) rfl)
  | ((with_reducible show DE _ _ _ _ (Expr.Name "drawing" _) _); exact de_own (i := 0) rfl rfl (by kat_tups) rfl)
  | ((with_reducible show DE _ _ _ _ (Expr.Name "begin" _) _); exact de_val (i := 1) rfl rfl (by kat_tups) rfl)
  | ((with_reducible show DE _ _ _ _ (Expr.Name "begin" _) _); exact de_old (i := 1) rfl rfl (by kat_tups) rfl)
  | ((with_reducible show DE _ _ _ _ (Expr.Name "begin" _) _); exact de_own (i := 1) rfl rfl (by kat_tups) rfl)
  | ((with_reducible show DE _ _ _ _ (Expr.Name "end" _) _); exact de_val (i := 2) rfl rfl (by kat_tups) rfl)
  | ((with_reducible show DE _ _ _ _ (Expr.Name "end" _) _); exact de_old (i := 2) rfl rfl (by kat_tups) rfl)
  | ((with_reducible show DE _ _ _ _ (Expr.Name "end" _) _); exact de_own (i := 2) rfl rfl (by kat_tups) rfl)
  | ((with_reducible show DE _ _ _ _ (Expr.Name "kind" _) _); exact de_val (i := 3) rfl rfl (by kat_tups) rfl)
  | ((with_reducible show DE _ _ _ _ (Expr.Name "kind" _) _); exact de_old (i := 3) rfl rfl (by kat_tups) rfl)
  | ((with_reducible show DE _ _ _ _ (Expr.Name "kind" _) _); exact de_own (i := 3) rfl rfl (by kat_tups) rfl)
  | ((with_reducible show DE _ _ _ _ (Expr.Name "way" _) _); exact de_val (i := 4) rfl rfl (by kat_tups) rfl)
  | ((with_reducible show DE _ _ _ _ (Expr.Name "way" _) _); exact de_old (i := 4) rfl rfl (by kat_tups) rfl)
  | ((with_reducible show DE _ _ _ _ (Expr.Name "way" _) _); exact de_own (i := 4) rfl rfl (by kat_tups) rfl)
  | ((with_reducible show DE _ _ _ _ (Expr.Name "arc" _) _); exact de_val (i := 5) rfl rfl (by kat_tups) rfl)
  | ((with_reducible show DE _ _ _ _ (Expr.Name "arc" _) _); exact de_old (i := 5) rfl rfl (by kat_tups) rfl)
  | ((with_reducible show DE _ _ _ _ (Expr.Name "arc" _) _); exact de_own (i := 5) rfl rfl (by kat_tups) rfl))
structure LdOk (ps ts : List Int) (b e : Nat) (ov : Bool) (way : List Side) : Prop where
  ly : LyOk ps ts b e ov way
  me : meetsM (layA (sgO ov) (stA ps ts b e) way).1 (layA (sgO ov) (stA ps ts b e) way).2.1 = true
abbrev preLd : LayT → Prop := fun a => LdOk a.1.1 a.1.2 a.2.1 a.2.2.1 a.2.2.2.1 a.2.2.2.2
theorem ok_closed (lt : Bool) {f fL fM : Addr} {fd fdL fdM : FuncData} {kl km : Nat} (T : Tx mg) (A' : ArcC K C) (F : Fun K "closed" "closed" s_closed f fd)
    (FL : FnOk P w K mg base (L2.CX P w) kl fL fdL ["drawing", "begin", "end", "kind", "way"] (spT K C [.val, .val, .val, .val, .val] (encLa lt) preLa (fun a => .ret .val (astD (layT a))))) (gL : mg "laid_on" = some (.ref fL)) (kL : PySem.W.keepIn K (.ref fL) = true) (bL : Binds K fdL ["drawing", "begin", "end", "kind", "way"] []) (hkl : kl ≤ k)
    (FM : FnOk P w K mg base (L2.CX P w) km fM fdM ["self"] (spT K C [.bor] encOp preOp outMe)) (mM : Meth K C "meets" fM) (bM : Binds K fdM ["self"] []) (hkm : km ≤ k) :
    FnOk P w K mg base (L2.CX P w) (k + 1) f fd ["drawing", "begin", "end", "kind", "way"] (spT K C [.val, .val, .val, .val, .val] (encLa lt) preLd (fun a => .ret .val (astD (layT a)))) := by
  refine ok_of F sc_closed rfl fun cdv A outer s H E hr Hb a hp => ?_
  obtain ⟨⟨ps, ts⟩, b, e, ov, way⟩ := a
  obtain ⟨hly, hme⟩ := hp
  have hly : LyOk ps ts b e ov way := hly
  have hme : meetsM (layA (sgO ov) (stA ps ts b e) way).1 (layA (sgO ov) (stA ps ts b e) way).2.1 = true := hme
  have hat := hly.at way.length
  rw [List.take_length] at hat
  show DSs _ _ _ [.val (drD ps ts), .val (.int (b : Nat)), .val (.int (e : Nat)), .val (.str (kindS ov)), .val (if lt = true then D.lst (way.map pairD) else D.tup (way.map pairD)), .any] _ (poOf (.ret .val (astD (layA (sgO ov) (stA ps ts b e) way))))
  generalize hwd : (if lt = true then D.lst (way.map pairD) else D.tup (way.map pairD)) = wd
  refine dss_seq (ds_set (i := 5) (m := .val) (d := astD (layA (sgO ov) (stA ps ts b e) way)) (de_call FL (hr.mono hkl) rfl gL kL bL (l := [(.val, drD ps ts), (.val, .int (b : Nat)), (.val, .int (e : Nat)), (.val, .str (kindS ov)), (.val, wd)]) (da_cons (m := .val) (by kct_strs) (da_cons (m := .val) (by kct_strs) (da_cons (m := .val) (by kct_strs) (da_cons (m := .val) (by kct_strs) (da_cons (m := .val) (by kct_strs) (da_nil rfl)))))) ((ps, ts), b, e, ov, way) (by subst hwd; rfl) rfl hly rfl) rfl sc_closed.nd rfl (.inl rfl) (by o_fieldsN) rfl) ?_
  generalize layA (sgO ov) (stA ps ts b e) way = st at *
  obtain ⟨row, tn, n⟩ := st
  obtain ⟨hso, hrl, _⟩ := hat
  have hrl : row.length ≤ 200 := hrl
  have hpre : preOp (row, tn, n) := ⟨by show row.length ≤ 1000; omega, hso.ar.wf, hso.nle⟩
  show DSs _ _ _ [.val (drD ps ts), .val (.int (b : Nat)), .val (.int (e : Nat)), .val (.str (kindS ov)), .val wd, .val (.arc row tn (n : Nat))] _ _
  refine dss_guard (k := !meetsM row tn) (dt_not (dt_val (m := .val) (de_meth0 A'.cl mM FM (hr.mono hkm) bM (row := row) (turns := tn) (n := (n : Nat)) (by kct_strs) (fun _ _ => rfl) (row, tn, n) rfl hpre rfl))) (fun h => ?_) (fun _ => ?_)
  · have hme : meetsM row tn = true := hme
    rw [hme] at h; cases h
  · exact dss_one (ds_ret (m := .val) (d := .arc row tn (n : Nat)) (by kct_strs) rfl rfl)
end
abbrev s_lay : Stmt := topS 24
theorem sc_lay : FnScope ["drawing", "begin", "end", "kind", "way"] ["drawing", "begin", "end", "kind", "way"] (defScope s_lay) := ⟨rfl, rfl, rfl, by decide +kernel, rfl, by decide +kernel, by decide +kernel⟩
section
local macro_rules | `(tactic| kct_strs) => `(tactic| first
  | ((with_reducible show DE _ _ _ _ (Expr.Name "drawing" _) _); exact de_val (i := 0) rfl rfl (by kat_tups) rfl)
  | ((with_reducible show DE _ _ _ _ (Expr.Name "drawing" _) _); exact de_old (i := 0) rfl rfl (by kat_tups) rfl)
  | ((with_reducible show DE _ _ _ _ (Expr.Name "drawing" _) _); exact de_own (i := 0) rfl rfl (by kat_tups) rfl)
  | ((with_reducible show DE _ _ _ _ (Expr.Name "begin" _) _); exact de_val (i := 1) rfl rfl (by kat_tups) rfl)
  | ((with_reducible show DE _ _ _ _ (Expr.Name "begin" _) _); exact de_old (i := 1) rfl rfl (by kat_tups) rfl)
  | ((with_reducible show DE _ _ _ _ (Expr.Name "begin" _) _); exact de_own (i := 1) rfl rfl (by kat_tups) rfl)
  | ((with_reducible show DE _ _ _ _ (Expr.Name "end" _) _); exact de_val (i := 2) rfl rfl (by kat_tups) rfl)
  | ((with_reducible show DE _ _ _ _ (Expr.Name "end" _) _); exact de_old (i := 2) rfl rfl (by kat_tups) rfl)
  | ((with_reducible show DE _ _ _ _ (Expr.Name "end" _) _); exact de_own (i := 2) rfl rfl (by kat_tups) rfl)
  | ((with_reducible show DE _ _ _ _ (Expr.Name "kind" _) _); exact de_val (i := 3) rfl rfl (by kat_tups) rfl)
  | ((with_reducible show DE _ _ _ _ (Expr.Name "kind" _) _); exact de_old (i := 3) rfl rfl (by kat_tups) rfl)
  | ((with_reducible show DE _ _ _ _ (Expr.Name "kind" _) _); exact de_own (i := 3) rfl rfl (by kat_tups) rfl)
  | ((with_reducible show DE _ _ _ _ (Expr.Name "way" _) _); exact de_val (i := 4) rfl rfl (by kat_tups) rfl)
  | ((with_reducible show DE _ _ _ _ (Expr.Name "way" _) _); exact de_old (i := 4) rfl rfl (by kat_tups) rfl)
  | ((with_reducible show DE _ _ _ _ (Expr.Name "way" _) _); exact de_own (i := 4) rfl rfl (by kat_tups) rfl))
theorem ok_lay (lt : Bool) {f fN fC fJ : Addr} {fd fdN fdC fdJ : FuncData} {kn kc kj : Nat} (T : Tx mg) (A' : ArcC K C) (F : Fun K "lay" "lay" s_lay f fd)
    (FN : FnOk P w K mg base (L2.CX P w) kn fN fdN ["drawing", "begin", "end", "kind"] (spT K C [.val, .val, .val, .val] encNs preNs (fun _ => .ret .val .non))) (gN : mg "need_stretch" = some (.ref fN)) (kN : PySem.W.keepIn K (.ref fN) = true) (bN : Binds K fdN ["drawing", "begin", "end", "kind"] []) (hkn : kn ≤ k)
    (FC : FnOk P w K mg base (L2.CX P w) kc fC fdC ["drawing", "begin", "end", "kind", "way"] (spT K C [.val, .val, .val, .val, .val] (encLa lt) preLd (fun a => .ret .val (astD (layT a))))) (gC : mg "closed" = some (.ref fC)) (kC : PySem.W.keepIn K (.ref fC) = true) (bC : Binds K fdC ["drawing", "begin", "end", "kind", "way"] []) (hkc : kc ≤ k)
    (FJ : FnOk P w K mg base (L2.CX P w) kj fJ fdJ ["self"] (spT K C [.bor] encOp JoOk outJo)) (mJ : Meth K C "joined" fJ) (bJ : Binds K fdJ ["self"] []) (hkj : kj ≤ k) :
    FnOk P w K mg base (L2.CX P w) (k + 1) f fd ["drawing", "begin", "end", "kind", "way"] (spT K C [.val, .val, .val, .val, .val] (encLa lt) preLd (fun a => .ret .val (joD (layT a)))) := by
  refine ok_of F sc_lay rfl fun cdv A outer s H E hr Hb a hp => ?_
  obtain ⟨⟨ps, ts⟩, b, e, ov, way⟩ := a
  have hp : LdOk ps ts b e ov way := hp
  have hly := hp.ly
  have hat := hly.at way.length
  rw [List.take_length] at hat
  show DSs _ _ _ [.val (drD ps ts), .val (.int (b : Nat)), .val (.int (e : Nat)), .val (.str (kindS ov)), .val (if lt = true then D.lst (way.map pairD) else D.tup (way.map pairD))] _ (poOf (.ret .val (joD (layA (sgO ov) (stA ps ts b e) way))))
  generalize hwd : (if lt = true then D.lst (way.map pairD) else D.tup (way.map pairD)) = wd
  refine dss_seq (ds_drop (m := .val) (d := .non) (de_call FN (hr.mono hkn) rfl gN kN bN (l := [(.val, drD ps ts), (.val, .int (b : Nat)), (.val, .int (e : Nat)), (.val, .str (kindS ov))]) (da_cons (m := .val) (by kct_strs) (da_cons (m := .val) (by kct_strs) (da_cons (m := .val) (by kct_strs) (da_cons (m := .val) (by kct_strs) (da_nil rfl))))) ((ps, ts), b, e, ov) rfl rfl hly.ns rfl) rfl) ?_
  have hcall : ∀ {x1 x2 x3 : Pos} {p1 p2 p3 p4 p5 : Pos}, True := trivial
  refine dss_one (ds_ret (m := .val) (d := joD (layA (sgO ov) (stA ps ts b e) way)) ?_ rfl rfl)
  refine de_meth0 A'.cl mJ FJ (hr.mono hkj) bJ (m1 := .val) (row := (layA (sgO ov) (stA ps ts b e) way).1) (turns := (layA (sgO ov) (stA ps ts b e) way).2.1) (n := ((layA (sgO ov) (stA ps ts b e) way).2.2 : Nat)) ?_ (fun _ _ => rfl) (layA (sgO ov) (stA ps ts b e) way) rfl ⟨hat.1, by have := hat.2.1; omega, by have := hat.2.2; omega⟩ rfl
  exact de_call FC (hr.mono hkc) rfl gC kC bC (l := [(.val, drD ps ts), (.val, .int (b : Nat)), (.val, .int (e : Nat)), (.val, .str (kindS ov)), (.val, wd)]) (da_cons (m := .val) (by kct_strs) (da_cons (m := .val) (by kct_strs) (da_cons (m := .val) (by kct_strs) (da_cons (m := .val) (by kct_strs) (da_cons (m := .val) (by kct_strs) (da_nil rfl)))))) ((ps, ts), b, e, ov, way) (by subst hwd; rfl) rfl hp rfl
end
abbrev stepsD (a : Ast) : D := .tup [.lst ((openA a).map pairD), .bl (meetsM a.1 a.2.1)]
/-! ### falling -/
abbrev s_firsts : Stmt := topS 26
theorem sc_firsts : FnScope ["passes", "at"] ["passes"] (defScope s_firsts) := ⟨rfl, rfl, rfl, by decide +kernel, rfl, by decide +kernel, by decide +kernel⟩
section
local macro_rules | `(tactic| kct_strs) => `(tactic| first
  | ((with_reducible show DE _ _ _ _ (Expr.Name "passes" _) _); exact de_val (i := 0) rfl rfl (by kat_tups) rfl)
  | ((with_reducible show DE _ _ _ _ (Expr.Name "passes" _) _); exact de_old (i := 0) rfl rfl (by kat_tups) rfl)
  | ((with_reducible show DE _ _ _ _ (Expr.Name "passes" _) _); exact de_own (i := 0) rfl rfl (by kat_tups) rfl)
  | ((with_reducible show DE _ _ _ _ (Expr.Name "at" _) _); exact de_val (i := 1) rfl rfl (by kat_tups) rfl)
  | ((with_reducible show DE _ _ _ _ (Expr.Name "at" _) _); exact de_old (i := 1) rfl rfl (by kat_tups) rfl)
  | ((with_reducible show DE _ _ _ _ (Expr.Name "at" _) _); exact de_own (i := 1) rfl rfl (by kat_tups) rfl))
abbrev outFi : List Int → Out := fun ps => .ret .val (.lst ((firstsM ps).map .int))
theorem first_t {X : Cx} {c : Cc} {δ : List Sl} {i : Nat} {ps : List Int} {e1 e2 : Expr} {pos : Pos} {m1 m2 : Mo} (hi : i < ps.length) (h1 : DE X c m1 δ e1 (.int (-(ps.getD i 0)))) (h2 : DE X c m2 δ e2 (.tup ((ps.take i).map .int))) (hn : behindInMarks .NotIn e2 = false := by rfl) (hu : X.A.units + 65 < cLine) : DT X c δ (.Compare e1 [.NotIn] [e2] pos) (!secM ps i) := by
  refine DT.cast (dt_cm (m1 := m1) (d1 := .int (-(ps.getD i 0))) (m2 := m2) (d2 := .tup ((ps.take i).map .int)) h1 h2 (cm_of (o_ninTD hu h1.k rfl (fl_ints 7 _)) hn)) ?_
  rw [in_ints]; rfl
theorem ok_firsts {f : Addr} {fd : FuncData} (T : Tx mg) (F : Fun K "firsts" "firsts" s_firsts f fd) :
    FnOk P w K mg base (L2.CX P w) (k + 1) f fd ["passes"] (spT K C [.val] (fun ps : List Int => [.tup (ps.map .int)]) (fun ps => ps.length ≤ 1000) outFi) := by
  refine ok_of F sc_firsts rfl fun cdv A outer s H E hr Hb ps hl => ?_
  have hl : ps.length ≤ 1000 := hl
  have hu2 := units2 hr
  show DSs _ _ _ [.val (.tup (ps.map .int)), .any] _ (poOf (.ret .val (.lst ((firstsM ps).map .int))))
  have ef : (((List.range (((ps.map D.int).length : Nat) : Int).toNat).filter fun i : Nat => !secM ps i).map fun i : Nat => D.int (ps.getD i 0)) = (firstsM ps).map D.int := by
    rw [Int.toNat_natCast, List.length_map]
    unfold firstsM
    rw [List.map_map]
    rfl
  rw [← ef]
  refine dss_one (ds_ret (m := .val) (d := .lst (((List.range (((ps.map D.int).length : Nat) : Int).toNat).filter fun i : Nat => !secM ps i).map fun i : Nat => D.int (ps.getD i 0))) (DE.val (m := .fr) ?_ rfl) rfl rfl)
  refine de_lcR (m := .val) (n := (((ps.map D.int).length : Nat) : Int)) (t' := fun i : Nat => !secM ps i) (f' := fun i : Nat => .int (ps.getD i 0)) (tg := .nm 1) rfl T.b_range (by repeat' tb_rel) (lcp_if (own := [("at", 1)]) rfl rfl sc_firsts.nd (blkOk_by rfl) (fun _ _ _ _ _ => dg_nm sc_firsts.nd rfl (by first | exact Or.inl rfl | exact Or.inr rfl)) (fun a _ => by show 1 < 2; decide) (by decide) (fun i hi s' H' C' cl' fp' => ?_) (fun i hi _ s' H' C' cl' fp' => ?_) (by rw [List.length_range]; simp; omega)) (by simp; omega) (by omega)
  · have hi : i < ps.length := by have := List.mem_range.mp hi; simpa using this
    have ha : atI ps (i : Int) = some (ps.getD i 0) := getD_of (by omega) (by omega)
    exact first_t (m1 := .val) (m2 := .val) hi (by repeat' tb_rel) (DE.cast (d := .tup ((cutI ps none (some (i : Int))).map .int)) (by repeat' tb_rel) (by rw [cutI_to])) rfl hu2
  · have hi : i < ps.length := by have := List.mem_range.mp hi; simpa using this
    have ha : atI ps (i : Int) = some (ps.getD i 0) := getD_of (by omega) (by omega)
    repeat' tb_rel
end
abbrev s_fall_of : Stmt := topS 27
theorem sc_fall_of : FnScope ["drawing", "some", "one"] ["drawing"] (defScope s_fall_of) := ⟨rfl, rfl, rfl, by decide +kernel, rfl, by decide +kernel, by decide +kernel⟩
section
local macro_rules | `(tactic| kct_strs) => `(tactic| first
  | ((with_reducible show DE _ _ _ _ (Expr.Name "drawing" _) _); exact de_val (i := 0) rfl rfl (by kat_tups) rfl)
  | ((with_reducible show DE _ _ _ _ (Expr.Name "drawing" _) _); exact de_old (i := 0) rfl rfl (by kat_tups) rfl)
  | ((with_reducible show DE _ _ _ _ (Expr.Name "drawing" _) _); exact de_own (i := 0) rfl rfl (by kat_tups) rfl)
  | ((with_reducible show DE _ _ _ _ (Expr.Name "some" _) _); exact de_val (i := 1) rfl rfl (by kat_tups) rfl)
  | ((with_reducible show DE _ _ _ _ (Expr.Name "some" _) _); exact de_old (i := 1) rfl rfl (by kat_tups) rfl)
  | ((with_reducible show DE _ _ _ _ (Expr.Name "some" _) _); exact de_own (i := 1) rfl rfl (by kat_tups) rfl)
  | ((with_reducible show DE _ _ _ _ (Expr.Name "one" _) _); exact de_val (i := 2) rfl rfl (by kat_tups) rfl)
  | ((with_reducible show DE _ _ _ _ (Expr.Name "one" _) _); exact de_old (i := 2) rfl rfl (by kat_tups) rfl)
  | ((with_reducible show DE _ _ _ _ (Expr.Name "one" _) _); exact de_own (i := 2) rfl rfl (by kat_tups) rfl))
def kindD : Option Bool → D
  | some b => .str (kindS b)
  | none => .non
abbrev encFo : List Int × List Int → List D := fun a => [drD a.1 a.2]
abbrev preFo : List Int × List Int → Prop := fun a => a.1.length ≤ 1000
abbrev outFo : List Int × List Int → Out := fun a => .ret .val (kindD (kindM a.1))
theorem ok_fallof {f fF : Addr} {fd fdF : FuncData} {kf : Nat} (T : Tx mg) (F : Fun K "fall_of" "fall_of" s_fall_of f fd)
    (FF : FnOk P w K mg base (L2.CX P w) kf fF fdF ["passes"] (spT K C [.val] (fun ps : List Int => [.tup (ps.map .int)]) (fun ps => ps.length ≤ 1000) outFi)) (gF : mg "firsts" = some (.ref fF)) (kF : PySem.W.keepIn K (.ref fF) = true) (bF : Binds K fdF ["passes"] []) (hkf : kf ≤ k) :
    FnOk P w K mg base (L2.CX P w) (k + 1) f fd ["drawing"] (spT K C [.val] encFo preFo outFo) := by
  refine ok_of F sc_fall_of rfl fun cdv A outer s H E hr Hb a hl => ?_
  obtain ⟨ps, ts⟩ := a
  have hl : ps.length ≤ 1000 := hl
  have hu := hu_of hr
  show DSs _ _ _ [.val (drD ps ts), .any, .any] _ (poOf (.ret .val (kindD (kindM ps))))
  have hfl : (firstsM ps).length ≤ 1000 := by
    unfold firstsM
    rw [List.length_map]
    have := List.length_filter_le (fun i => !decide (-(ps.getD i 0) ∈ ps.take i)) (List.range ps.length)
    rw [List.length_range] at this
    omega
  refine dss_seq (ds_set (i := 1) (m := .val) (d := .lst ((firstsM ps).map .int)) (de_call FF (hr.mono hkf) rfl gF kF bF (l := [(.val, .tup (ps.map .int))]) (da_cons (m := .val) (de_ix (m1 := .val) (d1 := drD ps ts) (m2 := .val) (d2 := .int 0) (by kct_strs) (by repeat' tb_rel) (ix_t rfl) (fun _ _ => rfl)) (da_nil rfl)) ps rfl rfl hl rfl) rfl sc_fall_of.nd rfl (by first | exact Or.inl rfl | exact Or.inr rfl) (by o_fieldsN) rfl) ?_
  have ek : kindM ps = if ((firstsM ps).filter fun x => decide (x < 0)).length = 0 then some true else if ((firstsM ps).filter fun x => decide (0 < x)).length = 0 then some false else none := rfl
  rw [ek]
  generalize firstsM ps = fi at *
  show DSs _ _ _ [.val (drD ps ts), .val (.lst (fi.map .int)), .any] _ _
  refine dss_guard (k := decide ((((((fi.filter fun x => decide (x < 0)).map D.int).length : Nat)) : Int) = 0)) (dt_cm (m1 := .val) (d1 := .int ((((fi.filter fun x => decide (x < 0)).map D.int).length : Nat) : Int)) (m2 := .val) (d2 := .int 0) ?_ (by repeat' tb_rel) (by repeat' tb_rel)) (fun h => ?_) (fun h => ?_)
  · exact de_callB (id := "len") (da_cons (m := .fr) (de_lcL (m := .val) (enc := D.int) (ns := fi) (t := fun x => decide (x < 0)) (f := fun i => .int i) (tg := .nm 2) (by kct_strs) (lcp_if (own := [("one", 2)]) rfl rfl sc_fall_of.nd (blkOk_by rfl) (fun _ _ _ _ _ => dg_nm sc_fall_of.nd rfl (by first | exact Or.inl rfl | exact Or.inr rfl)) (fun a _ => by show 2 < 3; decide) (by decide) (fun a _ _ _ _ _ _ => by repeat' tb_rel) (fun a _ _ _ _ _ _ _ => by repeat' tb_rel) (by omega))) (da_nil rfl)) c_lenL rfl T.b_len boot_len
  · have h1 : (fi.filter fun x => decide (x < 0)).length = 0 := by
      have := of_decide_eq_true h
      rw [List.length_map] at this; omega
    rw [if_pos h1]
    exact dss_one (ds_retE (m := .val) (d := .str "over") (d' := .str (kindS true)) (by repeat' tb_rel) rfl rfl rfl)
  have h1 : ¬ (fi.filter fun x => decide (x < 0)).length = 0 := by
    have := of_decide_eq_false h
    rw [List.length_map] at this; omega
  rw [if_neg h1]
  refine dss_guard (k := decide ((((((fi.filter fun x => decide (0 < x)).map D.int).length : Nat)) : Int) = 0)) (dt_cm (m1 := .val) (d1 := .int ((((fi.filter fun x => decide (0 < x)).map D.int).length : Nat) : Int)) (m2 := .val) (d2 := .int 0) ?_ (by repeat' tb_rel) (by repeat' tb_rel)) (fun h => ?_) (fun h => ?_)
  · exact de_callB (id := "len") (da_cons (m := .fr) (de_lcL (m := .val) (enc := D.int) (ns := fi) (t := fun x => decide (0 < x)) (f := fun i => .int i) (tg := .nm 2) (by kct_strs) (lcp_if (own := [("one", 2)]) rfl rfl sc_fall_of.nd (blkOk_by rfl) (fun _ _ _ _ _ => dg_nm sc_fall_of.nd rfl (by first | exact Or.inl rfl | exact Or.inr rfl)) (fun a _ => by show 2 < 3; decide) (by decide) (fun a _ _ _ _ _ _ => by repeat' tb_rel) (fun a _ _ _ _ _ _ _ => by repeat' tb_rel) (by omega))) (da_nil rfl)) c_lenL rfl T.b_len boot_len
  · have h1 : (fi.filter fun x => decide (0 < x)).length = 0 := by
      have := of_decide_eq_true h
      rw [List.length_map] at this; omega
    rw [if_pos h1]
    exact dss_one (ds_retE (m := .val) (d := .str "under") (d' := .str (kindS false)) (by repeat' tb_rel) rfl rfl rfl)
  have h2 : ¬ (fi.filter fun x => decide (0 < x)).length = 0 := by
    have := of_decide_eq_false h
    rw [List.length_map] at this; omega
  rw [if_neg h2]
  exact dss_one (ds_ret (m := .val) (d := .non) (de_non rfl) rfl rfl)
end
abbrev s_fall : Stmt := topS 28
theorem sc_fall : FnScope ["drawing"] ["drawing"] (defScope s_fall) := ⟨rfl, rfl, rfl, by decide +kernel, rfl, by decide +kernel, by decide +kernel⟩
section
local macro_rules | `(tactic| kct_strs) => `(tactic| first
  | ((with_reducible show DE _ _ _ _ (Expr.Name "drawing" _) _); exact de_val (i := 0) rfl rfl (by kat_tups) rfl)
  | ((with_reducible show DE _ _ _ _ (Expr.Name "drawing" _) _); exact de_old (i := 0) rfl rfl (by kat_tups) rfl)
  | ((with_reducible show DE _ _ _ _ (Expr.Name "drawing" _) _); exact de_own (i := 0) rfl rfl (by kat_tups) rfl))
abbrev preFa : List Int × List Int → Prop := fun a => isDrw (drD a.1 a.2) = true
theorem ok_fall {f fF fD : Addr} {fd fdF fdD : FuncData} {kf kd : Nat} {eD : Addr} (T : Tx mg) (F : Fun K "fall" "fall" s_fall f fd)
    (FD : FnOk P w K mg base (L2.CX P w) kd fD fdD ["thing"] (spT K C [.bor] (fun d : D => [d]) (fun d => fl 8 d = true) (outNe eD))) (gD : mg "need_drawing" = some (.ref fD)) (kD : PySem.W.keepIn K (.ref fD) = true) (bD : Binds K fdD ["thing"] []) (hkd : kd ≤ k)
    (FF : FnOk P w K mg base (L2.CX P w) kf fF fdF ["drawing"] (spT K C [.val] encFo preFo outFo)) (gF : mg "fall_of" = some (.ref fF)) (kF : PySem.W.keepIn K (.ref fF) = true) (bF : Binds K fdF ["drawing"] []) (hkf : kf ≤ k) :
    FnOk P w K mg base (L2.CX P w) (k + 1) f fd ["drawing"] (spT K C [.val] encFo preFa outFo) := by
  refine ok_of F sc_fall rfl fun cdv A outer s H E hr Hb a hp => ?_
  obtain ⟨ps, ts⟩ := a
  have hp : isDrw (drD ps ts) = true := hp
  have hl := (drD_parts hp).2.1
  have h40 := (drD_parts hp).1
  show DSs _ _ _ [.val (drD ps ts)] _ (poOf (.ret .val (kindD (kindM ps))))
  refine dss_seq (ds_drop (m := .val) (d := .non) (de_call FD (hr.mono hkd) rfl gD kD bD (l := [(.val, drD ps ts)]) (da_cons (m := .val) (by kct_strs) (da_nil rfl)) (drD ps ts) rfl rfl (fl_dr 6 ps ts) (by show (if isDrw (drD ps ts) = true then Out.ret .val .non else .exc eD) = _; rw [if_pos hp])) rfl) ?_
  exact dss_one (ds_ret (m := .val) (d := kindD (kindM ps)) (de_call FF (hr.mono hkf) rfl gF kF bF (l := [(.val, drD ps ts)]) (da_cons (m := .val) (by kct_strs) (da_nil rfl)) (ps, ts) rfl rfl (by show ps.length ≤ 1000; omega) rfl) rfl rfl)
end
abbrev s_first_loop : Stmt := topS 29
theorem sc_first_loop : FnScope ["passes", "at"] ["passes"] (defScope s_first_loop) := ⟨rfl, rfl, rfl, by decide +kernel, rfl, by decide +kernel, by decide +kernel⟩
section
local macro_rules | `(tactic| kct_strs) => `(tactic| first
  | ((with_reducible show DE _ _ _ _ (Expr.Name "passes" _) _); exact de_val (i := 0) rfl rfl (by kat_tups) rfl)
  | ((with_reducible show DE _ _ _ _ (Expr.Name "passes" _) _); exact de_old (i := 0) rfl rfl (by kat_tups) rfl)
  | ((with_reducible show DE _ _ _ _ (Expr.Name "passes" _) _); exact de_own (i := 0) rfl rfl (by kat_tups) rfl)
  | ((with_reducible show DE _ _ _ _ (Expr.Name "at" _) _); exact de_val (i := 1) rfl rfl (by kat_tups) rfl)
  | ((with_reducible show DE _ _ _ _ (Expr.Name "at" _) _); exact de_old (i := 1) rfl rfl (by kat_tups) rfl)
  | ((with_reducible show DE _ _ _ _ (Expr.Name "at" _) _); exact de_own (i := 1) rfl rfl (by kat_tups) rfl))
abbrev preFl : List Int → Prop := fun ps => ps.length ≤ 1000 ∧ ∃ sg, LoopOk sg ps
abbrev outFl : List Int → Out := fun ps => .ret .val (.tup [.int (bgL ps : Nat), .int (atM ps : Nat)])
theorem ok_floop {f : Addr} {fd : FuncData} (T : Tx mg) (F : Fun K "first_loop" "first_loop" s_first_loop f fd) :
    FnOk P w K mg base (L2.CX P w) (k + 1) f fd ["passes"] (spT K C [.val] (fun ps : List Int => [.tup (ps.map .int)]) preFl outFl) := by
  refine ok_of F sc_first_loop rfl fun cdv A outer s H E hr Hb ps hp => ?_
  obtain ⟨hl, sg, L⟩ := hp
  have hl : ps.length ≤ 1000 := hl
  have hu2 := units2 hr
  have hhi := L.hi
  show DSs _ _ _ [.val (.tup (ps.map .int)), .any] _ (poOf (.ret .val (.tup [.int (bgL ps : Nat), .int (atM ps : Nat)])))
  refine dss_seq (ds_set (i := 1) (m := .val) (d := .int ((0 : Nat) : Int)) (by repeat' tb_rel) rfl sc_first_loop.nd rfl (.inl rfl) (by o_fieldsN) rfl) ?_
  refine dss_cons (M := fun δ => δ = [.val (.tup (ps.map .int)), .val (.int (atM ps : Nat))]) ?_ ?_
  · refine ds_while (ι := Nat) (passes_of rfl) rfl (fun z => [.val (.tup (ps.map .int)), .val (.int (z : Nat))])
      (fun n z => z ≤ atM ps ∧ atM ps ≤ n + z) ps.length 0 rfl ⟨Nat.zero_le _, by omega⟩ (fun z => !secM ps z) ?_ ?_ ?_
    · rintro n z ⟨k1, k2⟩
      have hz : z < ps.length := by omega
      have ha : atI ps (z : Int) = some (ps.getD z 0) := getD_of (by omega) (by omega)
      exact first_t (m1 := .val) (m2 := .val) hz (by repeat' tb_rel) (DE.cast (d := .tup ((cutI ps none (some (z : Int))).map .int)) (by repeat' tb_rel) (by rw [cutI_to])) rfl hu2
    · rintro n z ⟨k1, k2⟩ ht
      have hne : z ≠ atM ps := fun e => by subst e; rw [L.sec] at ht; cases ht
      obtain ⟨n', rfl⟩ : ∃ n', n = n' + 1 := ⟨n - 1, by omega⟩
      refine dss_one (ds_setE (i := 1) (m := .val) (d := .int ((z : Int) + 1)) (d' := .int ((z + 1 : Nat) : Int)) (by repeat' tb_rel) rfl (by push_cast; rfl) sc_first_loop.nd rfl (.inl rfl) (by o_fieldsN) ?_)
      exact ⟨n', z + 1, Nat.lt_succ_self _, rfl, by omega, by omega⟩
    · rintro n z ⟨k1, k2⟩ ht
      have : z = atM ps := by
        by_cases e : z < atM ps
        · rw [L.fst z e] at ht; cases ht
        · omega
      rw [this]
  rintro _ rfl
  have ha : atI ps ((atM ps : Nat) : Int) = some (ps.getD (atM ps) 0) := getD_of (by omega) (by omega)
  have hin : -(ps.getD (atM ps) 0) ∈ ps := List.mem_of_mem_take (of_decide_eq_true L.sec)
  refine dss_one (ds_ret (m := .val) (d := .tup [.int (bgL ps : Nat), .int (atM ps : Nat)]) ?_ rfl rfl)
  exact de_tup (l := [(.val, .int (bgL ps : Nat)), (.val, .int (atM ps : Nat))]) (da_cons (m := .val) (de_tindex (m1 := .val) (m2 := .val) (ns := ps) (i := -(ps.getD (atM ps) 0)) (by kct_strs) (by repeat' tb_rel) hin) (da_cons (m := .val) (by kct_strs) (da_nil rfl))) rfl (by show 2 ≤ 100000; decide)
end
abbrev s_undone : Stmt := topS 30
theorem sc_undone : FnScope ["drawing", "kind", "found", "begin", "end"] ["drawing"] (defScope s_undone) := ⟨rfl, rfl, rfl, by decide +kernel, rfl, by decide +kernel, by decide +kernel⟩
section
local macro_rules | `(tactic| kct_strs) => `(tactic| first
  | ((with_reducible show DE _ _ _ _ (Expr.Name "drawing" _) _); exact de_val (i := 0) rfl rfl (by kat_tups) rfl)
  | ((with_reducible show DE _ _ _ _ (Expr.Name "drawing" _) _); exact de_old (i := 0) rfl rfl (by kat_tups) rfl)
  | ((with_reducible show DE _ _ _ _ (Expr.Name "drawing" _) _); exact de_own (i := 0) rfl rfl (by kat_tups) rfl)
  | ((with_reducible show DE _ _ _ _ (Expr.Name "kind" _) _); exact de_val (i := 1) rfl rfl (by kat_tups) rfl)
  | ((with_reducible show DE _ _ _ _ (Expr.Name "kind" _) _); exact de_old (i := 1) rfl rfl (by kat_tups) rfl)
  | ((with_reducible show DE _ _ _ _ (Expr.Name "kind" _) _); exact de_own (i := 1) rfl rfl (by kat_tups) rfl)
  | ((with_reducible show DE _ _ _ _ (Expr.Name "found" _) _); exact de_val (i := 2) rfl rfl (by kat_tups) rfl)
  | ((with_reducible show DE _ _ _ _ (Expr.Name "found" _) _); exact de_old (i := 2) rfl rfl (by kat_tups) rfl)
  | ((with_reducible show DE _ _ _ _ (Expr.Name "found" _) _); exact de_own (i := 2) rfl rfl (by kat_tups) rfl)
  | ((with_reducible show DE _ _ _ _ (Expr.Name "begin" _) _); exact de_val (i := 3) rfl rfl (by kat_tups) rfl)
  | ((with_reducible show DE _ _ _ _ (Expr.Name "begin" _) _); exact de_old (i := 3) rfl rfl (by kat_tups) rfl)
  | ((with_reducible show DE _ _ _ _ (Expr.Name "begin" _) _); exact de_own (i := 3) rfl rfl (by kat_tups) rfl)
  | ((with_reducible show DE _ _ _ _ (Expr.Name "end" _) _); exact de_val (i := 4) rfl rfl (by kat_tups) rfl)
  | ((with_reducible show DE _ _ _ _ (Expr.Name "end" _) _); exact de_old (i := 4) rfl rfl (by kat_tups) rfl)
  | ((with_reducible show DE _ _ _ _ (Expr.Name "end" _) _); exact de_own (i := 4) rfl rfl (by kat_tups) rfl))
/-- the moves by which a drawing comes undone -/
def undoM : Nat → List Int → List Int → List (Nat × Nat)
  | 0, _, _ => []
  | n + 1, ps, ts => if ps = [] then [] else (bgL ps, atM ps) :: undoM n (lnP (joinX (rowM ps (bgL ps) (atM ps)))) (lnT (tfA (keptM ps ts (bgL ps) (atM ps))) (joinX (rowM ps (bgL ps) (atM ps))))
abbrev loopD (ov : Bool) (m : Nat × Nat) : D := .tup [.int (m.1 : Nat), .int (m.2 : Nat), .str (kindS ov), .tup []]
abbrev preUn : List Int × List Int → Prop := fun a => CF a.1 a.2
def outUn (eN : Addr) : List Int × List Int → Out := fun a => match kindM a.1 with
  | some ov => .ret .val (.lst ((undoM a.2.length a.1 a.2).map (loopD ov)))
  | none => .exc eN
theorem undoM_len : ∀ (n : Nat) (ps ts : List Int), (undoM n ps ts).length ≤ n
  | 0, _, _ => Nat.le_refl _
  | n + 1, ps, ts => by
    unfold undoM
    split
    · exact Nat.zero_le _
    · rw [List.length_cons]
      exact Nat.succ_le_succ (undoM_len n _ _)
theorem loop_ld {ov : Bool} {ps ts : List Int} (h : CF ps ts) (L : LoopOk (sgO ov) ps) : LdOk ps ts (bgL ps) (atM ps) ov [] := by
  have hlt := L.lt
  have hhi := L.hi
  have h40 := (drD_parts h.dr).1
  exact ⟨⟨⟨h.dr, by omega, by omega, L.sign⟩, trivial, by simpa using h40⟩, loop_meets (sgO_pm ov) h L⟩
theorem ok_undone {f fD fF fL fY : Addr} {fd fdD fdF fdL fdY : FuncData} {kd kf kl ky : Nat} {eD eN : Addr} (T : Tx mg) (F : Fun K "undone" "undone" s_undone f fd) (xN : Xc K mg "NotFalling" eN)
    (FD : FnOk P w K mg base (L2.CX P w) kd fD fdD ["thing"] (spT K C [.bor] (fun d : D => [d]) (fun d => fl 8 d = true) (outNe eD))) (gD : mg "need_drawing" = some (.ref fD)) (kD : PySem.W.keepIn K (.ref fD) = true) (bD : Binds K fdD ["thing"] []) (hkd : kd ≤ k)
    (FF : FnOk P w K mg base (L2.CX P w) kf fF fdF ["drawing"] (spT K C [.val] encFo preFo outFo)) (gF : mg "fall_of" = some (.ref fF)) (kF : PySem.W.keepIn K (.ref fF) = true) (bF : Binds K fdF ["drawing"] []) (hkf : kf ≤ k)
    (FL : FnOk P w K mg base (L2.CX P w) kl fL fdL ["passes"] (spT K C [.val] (fun ps : List Int => [.tup (ps.map .int)]) preFl outFl)) (gL : mg "first_loop" = some (.ref fL)) (kL : PySem.W.keepIn K (.ref fL) = true) (bL : Binds K fdL ["passes"] []) (hkl : kl ≤ k)
    (FY : FnOk P w K mg base (L2.CX P w) ky fY fdY ["drawing", "begin", "end", "kind", "way"] (spT K C [.val, .val, .val, .val, .val] (encLa false) preLd (fun a => .ret .val (joD (layT a))))) (gY : mg "lay" = some (.ref fY)) (kY : PySem.W.keepIn K (.ref fY) = true) (bY : Binds K fdY ["drawing", "begin", "end", "kind", "way"] []) (hky : ky ≤ k) :
    FnOk P w K mg base (L2.CX P w) (k + 1) f fd ["drawing"] (spT K C [.val] encFo preUn (outUn eN)) := by
  refine ok_of F sc_undone rfl fun cdv A outer s H E hr Hb a hcf => ?_
  obtain ⟨ps, ts⟩ := a
  have hcf : CF ps ts := hcf
  have hp := hcf.dr
  obtain ⟨h40, hl, hap, _⟩ := drD_parts hp
  have hu := hu_of hr
  show DSs _ _ _ [.val (drD ps ts), .any, .any, .any, .any] _ _
  refine dss_seq (ds_drop (m := .val) (d := .non) (de_call FD (hr.mono hkd) rfl gD kD bD (l := [(.val, drD ps ts)]) (da_cons (m := .val) (by kct_strs) (da_nil rfl)) (drD ps ts) rfl rfl (fl_dr 6 ps ts) (by show (if isDrw (drD ps ts) = true then Out.ret .val .non else .exc eD) = _; rw [if_pos hp])) rfl) ?_
  refine dss_seq (ds_set (i := 1) (m := .val) (d := kindD (kindM ps)) (de_call FF (hr.mono hkf) rfl gF kF bF (l := [(.val, drD ps ts)]) (da_cons (m := .val) (by kct_strs) (da_nil rfl)) (ps, ts) rfl rfl (by show ps.length ≤ 1000; omega) rfl) rfl sc_undone.nd rfl (.inl rfl) (by o_fieldsN) rfl) ?_
  show DSs _ _ _ [.val (drD ps ts), .val (kindD (kindM ps)), .any, .any, .any] _ _
  refine dss_guard (k := isNonD (kindD (kindM ps))) (dt_cm (m1 := .val) (d1 := kindD (kindM ps)) (m2 := .val) (d2 := .non) (by kct_strs) (by repeat' tb_rel) (cm_of o_isN (by first | rfl | exact nomark _))) (fun h => ?_) (fun h => ?_)
  · have hk : kindM ps = none := by
      cases hk : kindM ps with
      | none => rfl
      | some b => rw [hk] at h; cases h
    refine dss_one (ds_raise rfl rfl (takes_of rfl rfl rfl rfl) (pmk_own PySem.F.excBase_ValueError xN.q xN.g xN.k (raises_own xN.s xN.t) rfl) ?_)
    show outUn eN (ps, ts) = .exc eN
    unfold outUn
    rw [hk]
  obtain ⟨ov, hk⟩ : ∃ ov, kindM ps = some ov := by
    cases hk : kindM ps with
    | none => rw [hk] at h; cases h
    | some b => exact ⟨b, rfl⟩
  have eo : outUn eN (ps, ts) = .ret .val (.lst ((undoM ts.length ps ts).map (loopD ov))) := by unfold outUn; rw [hk]
  rw [eo, hk]
  obtain ⟨pm, nd⟩ := passes_pair hap hl
  have hfa : Falls (sgO ov) ps := kind_falls hk fun x hx => ((pm x).mp hx).1
  have hul := undoM_len ts.length ps ts
  generalize hU : undoM ts.length ps ts = U at *
  show DSs _ _ _ [.val (drD ps ts), .val (.str (kindS ov)), .any, .any, .any] _ (poOf (.ret .val (.lst (U.map (loopD ov)))))
  refine dss_seq (ds_own (i := 2) (by repeat' tb_rel) sc_undone.nd rfl (by first | exact Or.inl rfl | exact Or.inr rfl) (by o_fieldsN) rfl) ?_
  refine dss_cons (M := fun δ => ∃ o0 o3 o4, δ = [o0, .val (.str (kindS ov)), .own (.lst (U.map (loopD ov))), o3, o4]) ?_ ?_
  · refine ds_while (ι := (List Int × List Int) × List (Nat × Nat) × Sl × Sl) (passes_of rfl) rfl (fun z => [.val (drD z.1.1 z.1.2), .val (.str (kindS ov)), .own (.lst (z.2.1.map (loopD ov))), z.2.2.1, z.2.2.2])
      (fun n z => CF z.1.1 z.1.2 ∧ Falls (sgO ov) z.1.1 ∧ z.1.2.length ≤ n ∧ z.2.1 ++ undoM n z.1.1 z.1.2 = U) ts.length ((ps, ts), [], .any, .any) rfl ⟨hcf, hfa, Nat.le_refl _, hU⟩ (fun z => decide ((0 : Int) < (((z.1.1.map D.int).length : Nat) : Int))) ?_ ?_ ?_
    · rintro n ⟨⟨ps', ts'⟩, acc, o3, o4⟩ _
      show DT _ _ [.val (drD ps' ts'), .val (.str (kindS ov)), .own (.lst (acc.map (loopD ov))), o3, o4] _ (decide ((0 : Int) < (((ps'.map D.int).length : Nat) : Int)))
      refine dt_cm (m1 := .val) (d1 := .int (((ps'.map D.int).length : Nat) : Int)) (m2 := .val) (d2 := .int 0) ?_ (by repeat' tb_rel) (by repeat' tb_rel)
      exact de_callB (id := "len") (da_cons (m := .val) (d := .tup (ps'.map .int)) (de_ix (m1 := .val) (d1 := drD ps' ts') (m2 := .val) (d2 := .int 0) (by kct_strs) (by repeat' tb_rel) (ix_t rfl) (fun _ _ => rfl)) (da_nil rfl)) c_lenT rfl T.b_len boot_len
    · rintro n ⟨⟨ps', ts'⟩, acc, o3, o4⟩ ⟨k1, k2, k3, k4⟩ ht
      have k1 : CF ps' ts' := k1
      have k2 : Falls (sgO ov) ps' := k2
      have k3 : ts'.length ≤ n := k3
      have k4 : acc ++ undoM n ps' ts' = U := k4
      have hne : ps' ≠ [] := fun e => by
        subst e
        cases ht
      obtain ⟨h40', hl', hap', _⟩ := drD_parts k1.dr
      obtain ⟨pm', nd'⟩ := passes_pair hap' hl'
      have L : LoopOk (sgO ov) ps' := loop_ok hne nd' (fun x hx => ((pm' x).mp hx).1) (fun x hx => (pm' _).mpr ⟨by have := ((pm' x).mp hx).1; omega, by rw [iabs_neg]; exact ((pm' x).mp hx).2⟩) k2
      obtain ⟨c1, c2, c3⟩ := loop_left (sgO_pm ov) k1 k2 L
      have hld := loop_ld k1 L
      have hlt := L.lt
      have hhi := L.hi
      obtain ⟨n', rfl⟩ : ∃ n', n = n' + 1 := ⟨n - 1, by omega⟩
      have ku : undoM (n' + 1) ps' ts' = (bgL ps', atM ps') :: undoM n' (lnP (joinX (rowM ps' (bgL ps') (atM ps')))) (lnT (tfA (keptM ps' ts' (bgL ps') (atM ps'))) (joinX (rowM ps' (bgL ps') (atM ps')))) := by
        conv => lhs; unfold undoM
        rw [if_neg hne]
      rw [ku] at k4
      have hal : acc.length ≤ ts.length := by rw [← k4, List.length_append] at hul; omega
      show DSs _ _ _ [.val (drD ps' ts'), .val (.str (kindS ov)), .own (.lst (acc.map (loopD ov))), o3, o4] _ _
      refine dss_seq (ds_unp (m := .val) (d := .tup [.int (bgL ps' : Nat), .int (atM ps' : Nat)]) (tg := .pr 3 4) (de_call FL (hr.mono hkl) rfl gL kL bL (l := [(.val, .tup (ps'.map .int))]) (da_cons (m := .val) (de_ix (m1 := .val) (d1 := drD ps' ts') (m2 := .val) (d2 := .int 0) (by kct_strs) (by repeat' tb_rel) (ix_t rfl) (fun _ _ => rfl)) (da_nil rfl)) ps' rfl rfl ⟨by show ps'.length ≤ 1000; omega, sgO ov, L⟩ rfl) (dg_pr rfl sc_undone.nd rfl (.inl rfl) rfl (.inl rfl)) ⟨by o_fieldsN, by o_fieldsN⟩ rfl) ?_
      have ejo : joD (layT ((ps', ts'), bgL ps', atM ps', ov, [])) = drD (lnP (joinX (rowM ps' (bgL ps') (atM ps')))) (lnT (tfA (keptM ps' ts' (bgL ps') (atM ps'))) (joinX (rowM ps' (bgL ps') (atM ps')))) := rfl
      have hjo : ∀ {d : D}, joD (layT ((ps', ts'), bgL ps', atM ps', ov, [])) = d → True := fun _ => trivial
      generalize hp2 : lnP (joinX (rowM ps' (bgL ps') (atM ps'))) = ps2 at *
      generalize ht2 : lnT (tfA (keptM ps' ts' (bgL ps') (atM ps'))) (joinX (rowM ps' (bgL ps') (atM ps'))) = ts2 at *
      generalize bgL ps' = b at *
      generalize atM ps' = e at *
      show DSs _ _ _ [.val (drD ps' ts'), .val (.str (kindS ov)), .own (.lst (acc.map (loopD ov))), .val (.int (b : Nat)), .val (.int (e : Nat))] _ _
      refine dss_seq (ds_app (i := 2) rfl (by kat_tups) (ds := acc.map (loopD ov)) rfl (m := .val) (d := loopD ov (b, e)) (de_tup (l := [(.val, .int (b : Nat)), (.val, .int (e : Nat)), (.val, .str (kindS ov)), (.val, .tup [])]) (da_cons (m := .val) (by kct_strs) (da_cons (m := .val) (by kct_strs) (da_cons (m := .val) (by kct_strs) (da_cons (m := .val) (de_tup (l := []) (da_nil rfl) rfl (by decide)) (da_nil rfl))))) rfl (by show 4 ≤ 100000; decide)) rfl (by rw [List.length_map]; omega) rfl) ?_
      show DSs _ _ _ [.val (drD ps' ts'), .val (.str (kindS ov)), .own (.lst (acc.map (loopD ov) ++ [loopD ov (b, e)])), .val (.int (b : Nat)), .val (.int (e : Nat))] _ _
      refine dss_one (ds_set (i := 0) (m := .val) (d := drD ps2 ts2) (DE.cast (d := joD (layT ((ps', ts'), b, e, ov, []))) ?_ ejo) rfl sc_undone.nd rfl (.inl rfl) (by o_fieldsN) ?_)
      · exact de_call FY (hr.mono hky) rfl gY kY bY (l := [(.val, drD ps' ts'), (.val, .int (b : Nat)), (.val, .int (e : Nat)), (.val, .str (kindS ov)), (.val, .tup [])]) (da_cons (m := .val) (by kct_strs) (da_cons (m := .val) (by kct_strs) (da_cons (m := .val) (by kct_strs) (da_cons (m := .val) (by kct_strs) (da_cons (m := .val) (de_tup (l := []) (da_nil rfl) rfl (by decide)) (da_nil rfl)))))) ((ps', ts'), b, e, ov, []) rfl rfl hld rfl
      · refine ⟨n', ((ps2, ts2), acc ++ [(b, e)], .val (.int (b : Nat)), .val (.int (e : Nat))), Nat.lt_succ_self _, ?_, c1, c3, by show ts2.length ≤ n'; omega, ?_⟩
        · show [_, _, _, _, _] = [_, _, _, _, _]
          rw [List.map_append]
          rfl
        · show (acc ++ [(b, e)]) ++ undoM n' ps2 ts2 = U
          rw [← k4]; simp
    · rintro n ⟨⟨ps', ts'⟩, acc, o3, o4⟩ ⟨k1, k2, k3, k4⟩ ht
      have k4 : acc ++ undoM n ps' ts' = U := k4
      have hnil : ps' = [] := by
        cases ps' with
        | nil => rfl
        | cons a r =>
          have ht : decide ((0 : Int) < ((((a :: r).map D.int).length : Nat) : Int)) = false := ht
          have := of_decide_eq_false ht
          rw [List.length_map, List.length_cons] at this
          omega
      subst hnil
      have hu0 : undoM n [] ts' = [] := by cases n <;> rfl
      rw [hu0, List.append_nil] at k4
      exact ⟨_, o3, o4, by rw [← k4]⟩
  rintro _ ⟨o0, o3, o4, rfl⟩
  refine dss_frz 2 rfl ?_
  exact dss_one (ds_ret (m := .val) (d := .lst (U.map (loopD ov))) (by kct_strs) rfl rfl)
end
/-! ### the law's own words -/
abbrev s_law_falling : Stmt := topS 38
theorem sc_law_falling : FnScope ["_law_drawing", "_law_sign", "_law_passes", "_law_turns", "_law_about", "_law_row", "_law_at", "_law_one"] ["_law_drawing", "_law_sign"] (defScope s_law_falling) := ⟨rfl, rfl, rfl, by decide +kernel, rfl, by decide +kernel, by decide +kernel⟩
section
local macro_rules | `(tactic| kct_strs) => `(tactic| first
  | ((with_reducible show DE _ _ _ _ (Expr.Name "_law_drawing" _) _); exact de_val (i := 0) rfl rfl (by kat_tups) rfl)
  | ((with_reducible show DE _ _ _ _ (Expr.Name "_law_drawing" _) _); exact de_old (i := 0) rfl rfl (by kat_tups) rfl)
  | ((with_reducible show DE _ _ _ _ (Expr.Name "_law_drawing" _) _); exact de_own (i := 0) rfl rfl (by kat_tups) rfl)
  | ((with_reducible show DE _ _ _ _ (Expr.Name "_law_sign" _) _); exact de_val (i := 1) rfl rfl (by kat_tups) rfl)
  | ((with_reducible show DE _ _ _ _ (Expr.Name "_law_sign" _) _); exact de_old (i := 1) rfl rfl (by kat_tups) rfl)
  | ((with_reducible show DE _ _ _ _ (Expr.Name "_law_sign" _) _); exact de_own (i := 1) rfl rfl (by kat_tups) rfl)
  | ((with_reducible show DE _ _ _ _ (Expr.Name "_law_passes" _) _); exact de_val (i := 2) rfl rfl (by kat_tups) rfl)
  | ((with_reducible show DE _ _ _ _ (Expr.Name "_law_passes" _) _); exact de_old (i := 2) rfl rfl (by kat_tups) rfl)
  | ((with_reducible show DE _ _ _ _ (Expr.Name "_law_passes" _) _); exact de_own (i := 2) rfl rfl (by kat_tups) rfl)
  | ((with_reducible show DE _ _ _ _ (Expr.Name "_law_turns" _) _); exact de_val (i := 3) rfl rfl (by kat_tups) rfl)
  | ((with_reducible show DE _ _ _ _ (Expr.Name "_law_turns" _) _); exact de_old (i := 3) rfl rfl (by kat_tups) rfl)
  | ((with_reducible show DE _ _ _ _ (Expr.Name "_law_turns" _) _); exact de_own (i := 3) rfl rfl (by kat_tups) rfl)
  | ((with_reducible show DE _ _ _ _ (Expr.Name "_law_about" _) _); exact de_val (i := 4) rfl rfl (by kat_tups) rfl)
  | ((with_reducible show DE _ _ _ _ (Expr.Name "_law_about" _) _); exact de_old (i := 4) rfl rfl (by kat_tups) rfl)
  | ((with_reducible show DE _ _ _ _ (Expr.Name "_law_about" _) _); exact de_own (i := 4) rfl rfl (by kat_tups) rfl)
  | ((with_reducible show DE _ _ _ _ (Expr.Name "_law_row" _) _); exact de_val (i := 5) rfl rfl (by kat_tups) rfl)
  | ((with_reducible show DE _ _ _ _ (Expr.Name "_law_row" _) _); exact de_old (i := 5) rfl rfl (by kat_tups) rfl)
  | ((with_reducible show DE _ _ _ _ (Expr.Name "_law_row" _) _); exact de_own (i := 5) rfl rfl (by kat_tups) rfl)
  | ((with_reducible show DE _ _ _ _ (Expr.Name "_law_at" _) _); exact de_val (i := 6) rfl rfl (by kat_tups) rfl)
  | ((with_reducible show DE _ _ _ _ (Expr.Name "_law_at" _) _); exact de_old (i := 6) rfl rfl (by kat_tups) rfl)
  | ((with_reducible show DE _ _ _ _ (Expr.Name "_law_at" _) _); exact de_own (i := 6) rfl rfl (by kat_tups) rfl)
  | ((with_reducible show DE _ _ _ _ (Expr.Name "_law_one" _) _); exact de_val (i := 7) rfl rfl (by kat_tups) rfl)
  | ((with_reducible show DE _ _ _ _ (Expr.Name "_law_one" _) _); exact de_old (i := 7) rfl rfl (by kat_tups) rfl)
  | ((with_reducible show DE _ _ _ _ (Expr.Name "_law_one" _) _); exact de_own (i := 7) rfl rfl (by kat_tups) rfl))
def aboutM (ps : List Int) (sg : Int) : List Int := ((enumL ps).filter fun q => !secM ps q.1 && decide (q.2 * sg < 0)).map fun q => iabs q.2
def fallP (ps : List Int) (sg : Int) (y : Int) : Bool := decide (y ∈ aboutM ps sg)
abbrev encFg : (List Int × List Int) × Int → List D := fun a => [drD a.1.1 a.1.2, .int a.2]
abbrev preFg : (List Int × List Int) × Int → Prop := fun a => a.1.1.length ≤ 1000 ∧ a.1.2.length ≤ 1000 ∧ (a.2 = 1 ∨ a.2 = -1)
abbrev outFg : (List Int × List Int) × Int → Out := fun a => .ret .val (drD (flPs (fallP a.1.1 a.2) a.1.1) (flTs (fallP a.1.1 a.2) a.1.2))
theorem enum_in {ps : List Int} {q : Nat × Int} (h : q ∈ enumL ps) : ∃ i, i < ps.length ∧ q = (i, ps.getD i 0) := by
  obtain ⟨i, hi, rfl⟩ := List.mem_map.mp h
  exact ⟨i, List.mem_range.mp hi, rfl⟩
theorem ok_falling {f : Addr} {fd : FuncData} (T : Tx mg) (F : Fun K "_law_falling" "_law_falling" s_law_falling f fd) :
    FnOk P w K mg base (L2.CX P w) (k + 1) f fd ["_law_drawing", "_law_sign"] (spT K C [.val, .val] encFg preFg outFg) := by
  refine ok_of F sc_law_falling rfl fun cdv A outer s H E hr Hb a hp => ?_
  obtain ⟨⟨ps, ts⟩, sg⟩ := a
  obtain ⟨hl, hlt, hsg⟩ := hp
  have hl : ps.length ≤ 1000 := hl
  have hlt : ts.length ≤ 1000 := hlt
  have hsg : sg = 1 ∨ sg = -1 := hsg
  have hu := hu_of hr
  have hu2 := units2 hr
  show DSs _ _ _ [.val (drD ps ts), .val (.int sg), .any, .any, .any, .any, .any, .any] _ (poOf (.ret .val (drD (flPs (fallP ps sg) ps) (flTs (fallP ps sg) ts))))
  refine dss_seq (ds_unp (m := .val) (d := .tup [.tup (ps.map .int), .tup (ts.map .int)]) (tg := .pr 2 3) (by kct_strs) (dg_pr rfl sc_law_falling.nd rfl (by first | exact Or.inl rfl | exact Or.inr rfl) rfl (by first | exact Or.inl rfl | exact Or.inr rfl)) ⟨by o_fieldsN, by o_fieldsN⟩ rfl) ?_
  show DSs _ _ _ [.val (drD ps ts), .val (.int sg), .val (.tup (ps.map .int)), .val (.tup (ts.map .int)), .any, .any, .any, .any] _ _
  refine dss_seq (ds_set (i := 4) (m := .fr) (d := .lst ((aboutM ps sg).map .int)) ?_ rfl sc_law_falling.nd rfl (by first | exact Or.inl rfl | exact Or.inr rfl) (by o_fieldsN) rfl) ?_
  · have ea : (((enumL ps).filter fun q => !secM ps q.1 && decide (q.2 * sg < 0)).map fun q => D.int (iabs q.2)) = (aboutM ps sg).map .int := by unfold aboutM; rw [List.map_map]; rfl
    rw [← ea]
    refine de_lcE (m := .val) (ns := ps) (t := fun q => !secM ps q.1 && decide (q.2 * sg < 0)) (f := fun q => .int (iabs q.2)) (tg := .pr 6 7) (by kct_strs) (lcp_if (own := [("_law_at", 6), ("_law_one", 7)]) rfl rfl sc_law_falling.nd (blkOk_by rfl) (fun _ _ _ _ _ => dg_pr rfl sc_law_falling.nd rfl (by first | exact Or.inl rfl | exact Or.inr rfl) rfl (by first | exact Or.inl rfl | exact Or.inr rfl)) (fun a _ => ⟨by show 6 < 8; decide, by show 7 < 8; decide⟩) (by decide) (fun a ha s' H' C' cl' fp' => ?_) (fun a ha _ s' H' C' cl' fp' => ?_) (by rw [enumL_len]; omega)) ?_ ?_
    rotate_left 2
    · exact rfl
    · exact T.b_enumerate
    · obtain ⟨i, hi, rfl⟩ := enum_in ha
      show DT _ _ [.val (drD ps ts), .val (.int sg), .val (.tup (ps.map .int)), .val (.tup (ts.map .int)), .any, .any, .val (.int (i : Nat)), .val (.int (ps.getD i 0))] _ _
      exact DW.dt (dw_and (k1 := !secM ps i) (first_t (m1 := .val) (m2 := .val) hi (by repeat' tb_rel) (DE.cast (d := .tup ((cutI ps none (some (i : Int))).map .int)) (by repeat' tb_rel) (by rw [cutI_to])) rfl hu2) fun _ => dw_and1 (dt_cm (m1 := .val) (d1 := .int (ps.getD i 0 * sg)) (m2 := .val) (d2 := .int 0) (de_bin (m1 := .val) (d1 := .int (ps.getD i 0)) (m2 := .val) (d2 := .int sg) (by kct_strs) (by kct_strs) (o_mul (.inr (by rcases hsg with rfl | rfl <;> decide)))) (by repeat' tb_rel) (by repeat' tb_rel)))
    · show DE _ _ _ [.val (drD ps ts), .val (.int sg), .val (.tup (ps.map .int)), .val (.tup (ts.map .int)), .any, .any, .val (.int (a.1 : Nat)), .val (.int a.2)] _ _
      repeat' tb_rel
  show DSs _ _ _ [.val (drD ps ts), .val (.int sg), .val (.tup (ps.map .int)), .val (.tup (ts.map .int)), .val (.lst ((aboutM ps sg).map .int)), .any, .any, .any] _ _
  have ep : ∀ y, decide (y ∈ aboutM ps sg) = fallP ps sg y := fun y => rfl
  generalize aboutM ps sg = ab at *
  generalize fallP ps sg = p at *
  have e1 : (ps.filter fun _ => true).map (fun x => D.int (if decide (iabs x ∈ ab) = true then -x else x)) = (flPs p ps).map .int := by
    unfold flPs
    rw [List.filter_true, List.map_map]
    exact List.map_congr_left fun x _ => by show D.int _ = D.int (flX p x); unfold flX; rw [ep]
  refine dss_seq (ds_set (i := 5) (m := .val) (d := .tup ((flPs p ps).map .int)) ?_ rfl sc_law_falling.nd rfl (by first | exact Or.inl rfl | exact Or.inr rfl) (by o_fieldsN) rfl) ?_
  · rw [← e1]
    exact de_callTy (T := "tuple") (da_cons (m := .fr) (de_lcT (m := .val) (enc := D.int) (t := fun _ => true) (f := fun x => .int (if decide (iabs x ∈ ab) = true then -x else x)) (tg := .nm 7) (by kct_strs) (lcp_no (own := [("_law_one", 7)]) rfl rfl sc_law_falling.nd (blkOk_by rfl) (fun _ _ _ _ _ => dg_nm sc_law_falling.nd rfl (by first | exact Or.inl rfl | exact Or.inr rfl)) (fun a _ => by show 7 < 8; decide) (by decide) (fun a _ _ _ _ _ _ => by repeat' tb_rel) (by omega))) (da_nil rfl)) (c_tupL (.inl rfl)) rfl T.b_tuple boot_tuple
  show DSs _ _ _ [.val (drD ps ts), .val (.int sg), .val (.tup (ps.map .int)), .val (.tup (ts.map .int)), .val (.lst (ab.map .int)), .val (.tup ((flPs p ps).map .int)), .any, .any] _ _
  refine dss_one (ds_ret (m := .val) (d := drD (flPs p ps) (flTs p ts)) ?_ rfl rfl)
  refine de_tup (l := [(.val, .tup ((flPs p ps).map .int)), (.val, .tup ((flTs p ts).map .int))]) (da_cons (m := .val) (by kct_strs) (da_cons (m := .val) ?_ (da_nil rfl))) rfl (by show 2 ≤ 100000; decide)
  have e2 : ((List.range (((ts.map D.int).length : Nat) : Int).toNat).filter fun _ => true).map (fun i : Nat => D.int (if decide (((i : Nat) : Int) + 1 ∈ ab) = true then -(ts.getD i 0) else ts.getD i 0)) = (flTs p ts).map .int := by
    unfold flTs
    rw [List.filter_true, List.map_map, Int.toNat_natCast, List.length_map]
    exact List.map_congr_left fun i _ => by show D.int _ = D.int (if p ((i : Int) + 1) = true then _ else _); rw [ep]
  rw [← e2]
  refine de_callTy (T := "tuple") (da_cons (m := .fr) (de_lcR (m := .val) (n := (((ts.map D.int).length : Nat) : Int)) (t' := fun _ => true) (f' := fun i : Nat => .int (if decide (((i : Nat) : Int) + 1 ∈ ab) = true then -(ts.getD i 0) else ts.getD i 0)) (tg := .nm 6) rfl T.b_range (by repeat' tb_rel) (lcp_no (own := [("_law_at", 6)]) rfl rfl sc_law_falling.nd (blkOk_by rfl) (fun _ _ _ _ _ => dg_nm sc_law_falling.nd rfl (by first | exact Or.inl rfl | exact Or.inr rfl)) (fun a _ => by show 6 < 8; decide) (by decide) (fun i hi s' H' C' cl' fp' => ?_) (by rw [List.length_range]; simp; omega)) (by simp; omega) (by omega)) (da_nil rfl)) (c_tupL (.inl rfl)) rfl T.b_tuple boot_tuple
  have hi : i < ts.length := by have := List.mem_range.mp hi; simpa using this
  have ha : atI ts (i : Int) = some (ts.getD i 0) := getD_of (by omega) (by omega)
  repeat' tb_rel
end
abbrev s_law_fall : Stmt := topS 39
theorem sc_law_fall : FnScope ["_law_passes", "_law_some", "_law_at", "_law_one"] ["_law_passes"] (defScope s_law_fall) := ⟨rfl, rfl, rfl, by decide +kernel, rfl, by decide +kernel, by decide +kernel⟩
section
local macro_rules | `(tactic| kct_strs) => `(tactic| first
  | ((with_reducible show DE _ _ _ _ (Expr.Name "_law_passes" _) _); exact de_val (i := 0) rfl rfl (by kat_tups) rfl)
  | ((with_reducible show DE _ _ _ _ (Expr.Name "_law_passes" _) _); exact de_old (i := 0) rfl rfl (by kat_tups) rfl)
  | ((with_reducible show DE _ _ _ _ (Expr.Name "_law_passes" _) _); exact de_own (i := 0) rfl rfl (by kat_tups) rfl)
  | ((with_reducible show DE _ _ _ _ (Expr.Name "_law_some" _) _); exact de_val (i := 1) rfl rfl (by kat_tups) rfl)
  | ((with_reducible show DE _ _ _ _ (Expr.Name "_law_some" _) _); exact de_old (i := 1) rfl rfl (by kat_tups) rfl)
  | ((with_reducible show DE _ _ _ _ (Expr.Name "_law_some" _) _); exact de_own (i := 1) rfl rfl (by kat_tups) rfl)
  | ((with_reducible show DE _ _ _ _ (Expr.Name "_law_at" _) _); exact de_val (i := 2) rfl rfl (by kat_tups) rfl)
  | ((with_reducible show DE _ _ _ _ (Expr.Name "_law_at" _) _); exact de_old (i := 2) rfl rfl (by kat_tups) rfl)
  | ((with_reducible show DE _ _ _ _ (Expr.Name "_law_at" _) _); exact de_own (i := 2) rfl rfl (by kat_tups) rfl)
  | ((with_reducible show DE _ _ _ _ (Expr.Name "_law_one" _) _); exact de_val (i := 3) rfl rfl (by kat_tups) rfl)
  | ((with_reducible show DE _ _ _ _ (Expr.Name "_law_one" _) _); exact de_old (i := 3) rfl rfl (by kat_tups) rfl)
  | ((with_reducible show DE _ _ _ _ (Expr.Name "_law_one" _) _); exact de_own (i := 3) rfl rfl (by kat_tups) rfl))
theorem firsts_enum (ps : List Int) : (((enumL ps).filter fun q => !secM ps q.1).map fun q => D.int q.2) = (firstsM ps).map .int := by
  unfold firstsM enumL
  rw [List.map_map, List.filter_map, List.map_map]
  rfl
theorem deq_nil (l : List Int) : deq (.lst (l.map .int)) (.lst []) = decide (l.length = 0) := by
  have := deq_lst l []
  rw [show ([] : List D) = ([] : List Int).map .int from rfl, this]
  cases l <;> rfl
theorem ok_lfall {f : Addr} {fd : FuncData} (T : Tx mg) (F : Fun K "_law_fall" "_law_fall" s_law_fall f fd) :
    FnOk P w K mg base (L2.CX P w) (k + 1) f fd ["_law_passes"] (spT K C [.val] (fun ps : List Int => [.tup (ps.map .int)]) (fun ps => ps.length ≤ 1000) (fun ps => .ret .val (kindD (kindM ps)))) := by
  refine ok_of F sc_law_fall rfl fun cdv A outer s H E hr Hb ps hl => ?_
  have hl : ps.length ≤ 1000 := hl
  have hu := hu_of hr
  have hu2 := units2 hr
  show DSs _ _ _ [.val (.tup (ps.map .int)), .any, .any, .any] _ (poOf (.ret .val (kindD (kindM ps))))
  refine dss_seq (δ' := [.val (.tup (ps.map .int)), .val (.lst ((firstsM ps).map .int)), .any, .any]) ?_ ?_
  · refine ds_setLcE (i := 1) (m := .val) (ns := ps) (t := fun q => !secM ps q.1) (f := fun q => .int q.2) (tg := .pr 2 3) (by kct_strs) (lcp_if (own := [("_law_at", 2), ("_law_one", 3)]) rfl rfl sc_law_fall.nd (blkOk_by rfl) (fun _ _ _ _ _ => dg_pr rfl sc_law_fall.nd rfl (by first | exact Or.inl rfl | exact Or.inr rfl) rfl (by first | exact Or.inl rfl | exact Or.inr rfl)) (fun a _ => ⟨by show 2 < 4; decide, by show 3 < 4; decide⟩) (by decide) (fun a ha s' H' C' cl' fp' => ?_) (fun a ha _ s' H' C' cl' fp' => ?_) (by rw [enumL_len]; omega)) rfl T.b_enumerate rfl rfl (by o_fieldsN) ?_ rfl
    · obtain ⟨i, hi, rfl⟩ := enum_in ha
      show DT _ _ [.val (.tup (ps.map .int)), .any, .val (.int (i : Nat)), .val (.int (ps.getD i 0))] _ _
      exact first_t (m1 := .val) (m2 := .val) hi (by repeat' tb_rel) (DE.cast (d := .tup ((cutI ps none (some (i : Int))).map .int)) (by repeat' tb_rel) (by rw [cutI_to])) rfl hu2
    · show DE _ _ _ [.val (.tup (ps.map .int)), .any, .val (.int (a.1 : Nat)), .val (.int a.2)] _ _
      repeat' tb_rel
    · rw [firsts_enum]; rfl
  have ek : kindM ps = if ((firstsM ps).filter fun x => decide (x < 0)).length = 0 then some true else if ((firstsM ps).filter fun x => decide (0 < x)).length = 0 then some false else none := rfl
  have hfl : (firstsM ps).length ≤ 1000 := by
    unfold firstsM
    rw [List.length_map]
    have := List.length_filter_le (fun i => !decide (-(ps.getD i 0) ∈ ps.take i)) (List.range ps.length)
    rw [List.length_range] at this
    omega
  rw [ek]
  generalize firstsM ps = fi at *
  refine dss_guard (k := deq (.lst ((fi.filter fun x => decide (x < 0)).map .int)) (.lst [])) (dt_cm (m1 := .fr) (d1 := .lst ((fi.filter fun x => decide (x < 0)).map .int)) (m2 := .fr) (d2 := .lst []) ?_ (by repeat' tb_rel) (cm_of (o_eq 0 hr.units (fl_ints 7 _) rfl rfl) (by first | rfl | exact nomark _))) (fun h => ?_) (fun h => ?_)
  · exact de_lcL (m := .val) (enc := D.int) (ns := fi) (t := fun x => decide (x < 0)) (f := fun i => .int i) (tg := .nm 3) (by kct_strs) (lcp_if (own := [("_law_one", 3)]) rfl rfl sc_law_fall.nd (blkOk_by rfl) (fun _ _ _ _ _ => dg_nm sc_law_fall.nd rfl (by first | exact Or.inl rfl | exact Or.inr rfl)) (fun a _ => by show 3 < 4; decide) (by decide) (fun a _ _ _ _ _ _ => by repeat' tb_rel) (fun a _ _ _ _ _ _ _ => by repeat' tb_rel) (by omega))
  · rw [deq_nil] at h
    rw [if_pos (of_decide_eq_true h)]
    exact dss_one (ds_retE (m := .val) (d := .str "over") (d' := .str (kindS true)) (by repeat' tb_rel) rfl rfl rfl)
  rw [deq_nil] at h
  rw [if_neg (of_decide_eq_false h)]
  refine dss_guard (k := deq (.lst ((fi.filter fun x => decide (0 < x)).map .int)) (.lst [])) (dt_cm (m1 := .fr) (d1 := .lst ((fi.filter fun x => decide (0 < x)).map .int)) (m2 := .fr) (d2 := .lst []) ?_ (by repeat' tb_rel) (cm_of (o_eq 0 hr.units (fl_ints 7 _) rfl rfl) (by first | rfl | exact nomark _))) (fun h => ?_) (fun h => ?_)
  · exact de_lcL (m := .val) (enc := D.int) (ns := fi) (t := fun x => decide (0 < x)) (f := fun i => .int i) (tg := .nm 3) (by kct_strs) (lcp_if (own := [("_law_one", 3)]) rfl rfl sc_law_fall.nd (blkOk_by rfl) (fun _ _ _ _ _ => dg_nm sc_law_fall.nd rfl (by first | exact Or.inl rfl | exact Or.inr rfl)) (fun a _ => by show 3 < 4; decide) (by decide) (fun a _ _ _ _ _ _ => by repeat' tb_rel) (fun a _ _ _ _ _ _ _ => by repeat' tb_rel) (by omega))
  · rw [deq_nil] at h
    rw [if_pos (of_decide_eq_true h)]
    exact dss_one (ds_retE (m := .val) (d := .str "under") (d' := .str (kindS false)) (by repeat' tb_rel) rfl rfl rfl)
  rw [deq_nil] at h
  rw [if_neg (of_decide_eq_false h)]
  exact dss_one (ds_ret (m := .val) (d := .non) (de_non rfl) rfl rfl)
end
abbrev s_law_refused : Stmt := topS 40
theorem sc_law_refused : FnScope ["_law_drawing", "e"] ["_law_drawing"] (defScope s_law_refused) := ⟨rfl, rfl, rfl, by decide +kernel, rfl, by decide +kernel, by decide +kernel⟩
section
local macro_rules | `(tactic| kct_strs) => `(tactic| first
  | ((with_reducible show DE _ _ _ _ (Expr.Name "_law_drawing" _) _); exact de_val (i := 0) rfl rfl (by kat_tups) rfl)
  | ((with_reducible show DE _ _ _ _ (Expr.Name "_law_drawing" _) _); exact de_old (i := 0) rfl rfl (by kat_tups) rfl)
  | ((with_reducible show DE _ _ _ _ (Expr.Name "_law_drawing" _) _); exact de_own (i := 0) rfl rfl (by kat_tups) rfl)
  | ((with_reducible show DE _ _ _ _ (Expr.Name "e" _) _); exact de_val (i := 1) rfl rfl (by kat_tups) rfl)
  | ((with_reducible show DE _ _ _ _ (Expr.Name "e" _) _); exact de_old (i := 1) rfl rfl (by kat_tups) rfl)
  | ((with_reducible show DE _ _ _ _ (Expr.Name "e" _) _); exact de_own (i := 1) rfl rfl (by kat_tups) rfl))
abbrev preRn : List Int × List Int → Prop := fun a => CF a.1 a.2 ∧ kindM a.1 = none
theorem ok_refusedN {f fU : Addr} {fd fdU : FuncData} {ku : Nat} {eN eR eD : Addr} (T : Tx mg) (F : Fun K "_law_refused" "_law_refused" s_law_refused f fd) (xR : Xc K mg "RopeError" eR) (xN : Xc K mg "NotFalling" eN) (xD : Xc K mg "NoDrawing" eD) (EN : ExcC K eN)
    (xx : PySem.W.exmOne K (.ref eN) (.ref eR) = some true) (i1 : PySem.W.kitOne K (.ref eN) (.ref eN) = some true) (i2 : PySem.W.kitOne K (.ref eN) (.type "ValueError") = some true) (i3 : PySem.W.kitOne K (.ref eN) (.ref eD) = some false)
    (FU : FnOk P w K mg base (L2.CX P w) ku fU fdU ["drawing"] (spT K C [.val] encFo preUn (outUn eN))) (gU : mg "undone" = some (.ref fU)) (kU : PySem.W.keepIn K (.ref fU) = true) (bU : Binds K fdU ["drawing"] []) (hku : ku ≤ k) :
    FnOk P w K mg base (L2.CX P w) (k + 1) f fd ["_law_drawing"] (spT K C [.val] encFo preRn (fun _ => .ret .val (.bl true))) := by
  refine ok_of F sc_law_refused rfl fun cdv A outer s H E hr Hb a hp => ?_
  obtain ⟨ps, ts⟩ := a
  obtain ⟨hcf, hk⟩ := hp
  have hcf : CF ps ts := hcf
  have hk : kindM ps = none := hk
  have eo : outUn eN (ps, ts) = .exc eN := by unfold outUn; rw [hk]
  show DSs _ _ _ [.val (drD ps ts), .any] _ (poOf (.ret .val (.bl true)))
  refine dss_cons (M := fun _ => False) (ds_tryE (i := 1) (fun e => e = eN) (cv := .ref eR) rfl rfl rfl sc_law_refused.nd rfl rfl ⟨rfl, by decide, .inl xR.g⟩ (takes_of rfl rfl rfl rfl) (fun W' pn xe tk ps' => ?_) (fun eC hx n oe pn hz hf => ?_)) (fun _ h => h.elim)
  · refine dss_one (ds_dropX (o := .exc eN) ?_ (fun m e ho => by cases ho) (fun e ho => ?_))
    · exact dx_callE tk FU (hr.mono hku) rfl gU kU bU (l := [(.val, drD ps ts)]) (da_cons (m := .val) (by kct_strs) (da_nil rfl)) (ps, ts) rfl rfl hcf eo (fun m e ho => by cases ho)
    · cases ho
      exact .inl ⟨xx, rfl⟩
  · subst hx
    refine dss_one (ds_retE (m := .val) (d := .bl (true && (true && !false))) (d' := .bl true) ?_ rfl rfl rfl)
    refine de_and (m1 := .val) (m2 := .val) ?_ fun _ => de_and (m1 := .val) (m2 := .val) ?_ fun _ => de_one (de_not (m := .val) ?_)
    · exact de_isE (m := .val) EN hz hf (by kct_strs) (pe_glob (v := .ref eC) (u := .ref eC) rfl xN.g rfl) (fun u r => r) i1 rfl T.b_isinstance
    · exact de_isE (m := .val) EN hz hf (by kct_strs) (pe_bltn (v := .ty "ValueError") (u := .type "ValueError") rfl T.b_ValueError (by decide +kernel) rfl) (fun u r => r) i2 rfl T.b_isinstance
    · exact de_isE (m := .val) EN hz hf (by kct_strs) (pe_glob (v := .ref eD) (u := .ref eD) rfl xD.g rfl) (fun u r => r) i3 rfl T.b_isinstance
end
abbrev s_law : Stmt := topS 41
theorem sc_law : FnScope ["_law_script", "_law_drawing", "_law_x", "_law_number", "_law_passes", "_law_turns", "_law_due", "_law_found", "_law_one", "_law_at"] ["_law_script"] (defScope s_law) := ⟨rfl, rfl, rfl, by decide +kernel, rfl, by decide +kernel, by decide +kernel⟩
section
local macro_rules | `(tactic| kct_strs) => `(tactic| first
  | ((with_reducible show DE _ _ _ _ (Expr.Name "_law_script" _) _); exact de_val (i := 0) rfl rfl (by kat_tups) rfl)
  | ((with_reducible show DE _ _ _ _ (Expr.Name "_law_script" _) _); exact de_old (i := 0) rfl rfl (by kat_tups) rfl)
  | ((with_reducible show DE _ _ _ _ (Expr.Name "_law_script" _) _); exact de_own (i := 0) rfl rfl (by kat_tups) rfl)
  | ((with_reducible show DE _ _ _ _ (Expr.Name "_law_drawing" _) _); exact de_val (i := 1) rfl rfl (by kat_tups) rfl)
  | ((with_reducible show DE _ _ _ _ (Expr.Name "_law_drawing" _) _); exact de_old (i := 1) rfl rfl (by kat_tups) rfl)
  | ((with_reducible show DE _ _ _ _ (Expr.Name "_law_drawing" _) _); exact de_own (i := 1) rfl rfl (by kat_tups) rfl)
  | ((with_reducible show DE _ _ _ _ (Expr.Name "_law_x" _) _); exact de_val (i := 2) rfl rfl (by kat_tups) rfl)
  | ((with_reducible show DE _ _ _ _ (Expr.Name "_law_x" _) _); exact de_old (i := 2) rfl rfl (by kat_tups) rfl)
  | ((with_reducible show DE _ _ _ _ (Expr.Name "_law_x" _) _); exact de_own (i := 2) rfl rfl (by kat_tups) rfl)
  | ((with_reducible show DE _ _ _ _ (Expr.Name "_law_number" _) _); exact de_val (i := 3) rfl rfl (by kat_tups) rfl)
  | ((with_reducible show DE _ _ _ _ (Expr.Name "_law_number" _) _); exact de_old (i := 3) rfl rfl (by kat_tups) rfl)
  | ((with_reducible show DE _ _ _ _ (Expr.Name "_law_number" _) _); exact de_own (i := 3) rfl rfl (by kat_tups) rfl)
  | ((with_reducible show DE _ _ _ _ (Expr.Name "_law_passes" _) _); exact de_val (i := 4) rfl rfl (by kat_tups) rfl)
  | ((with_reducible show DE _ _ _ _ (Expr.Name "_law_passes" _) _); exact de_old (i := 4) rfl rfl (by kat_tups) rfl)
  | ((with_reducible show DE _ _ _ _ (Expr.Name "_law_passes" _) _); exact de_own (i := 4) rfl rfl (by kat_tups) rfl)
  | ((with_reducible show DE _ _ _ _ (Expr.Name "_law_turns" _) _); exact de_val (i := 5) rfl rfl (by kat_tups) rfl)
  | ((with_reducible show DE _ _ _ _ (Expr.Name "_law_turns" _) _); exact de_old (i := 5) rfl rfl (by kat_tups) rfl)
  | ((with_reducible show DE _ _ _ _ (Expr.Name "_law_turns" _) _); exact de_own (i := 5) rfl rfl (by kat_tups) rfl)
  | ((with_reducible show DE _ _ _ _ (Expr.Name "_law_due" _) _); exact de_val (i := 6) rfl rfl (by kat_tups) rfl)
  | ((with_reducible show DE _ _ _ _ (Expr.Name "_law_due" _) _); exact de_old (i := 6) rfl rfl (by kat_tups) rfl)
  | ((with_reducible show DE _ _ _ _ (Expr.Name "_law_due" _) _); exact de_own (i := 6) rfl rfl (by kat_tups) rfl)
  | ((with_reducible show DE _ _ _ _ (Expr.Name "_law_found" _) _); exact de_val (i := 7) rfl rfl (by kat_tups) rfl)
  | ((with_reducible show DE _ _ _ _ (Expr.Name "_law_found" _) _); exact de_old (i := 7) rfl rfl (by kat_tups) rfl)
  | ((with_reducible show DE _ _ _ _ (Expr.Name "_law_found" _) _); exact de_own (i := 7) rfl rfl (by kat_tups) rfl)
  | ((with_reducible show DE _ _ _ _ (Expr.Name "_law_one" _) _); exact de_val (i := 8) rfl rfl (by kat_tups) rfl)
  | ((with_reducible show DE _ _ _ _ (Expr.Name "_law_one" _) _); exact de_old (i := 8) rfl rfl (by kat_tups) rfl)
  | ((with_reducible show DE _ _ _ _ (Expr.Name "_law_one" _) _); exact de_own (i := 8) rfl rfl (by kat_tups) rfl)
  | ((with_reducible show DE _ _ _ _ (Expr.Name "_law_at" _) _); exact de_val (i := 9) rfl rfl (by kat_tups) rfl)
  | ((with_reducible show DE _ _ _ _ (Expr.Name "_law_at" _) _); exact de_old (i := 9) rfl rfl (by kat_tups) rfl)
  | ((with_reducible show DE _ _ _ _ (Expr.Name "_law_at" _) _); exact de_own (i := 9) rfl rfl (by kat_tups) rfl))
abbrev Fc (P : Program) (w : World) (K : PySem.W.Frag) (mg : Str → Option Value) (base : Heap) (k : Nat) (x : Str) (ps : List Str) (sp : Sp) : Prop := ∃ f fd kn, FnOk P w K mg base (L2.CX P w) kn f fd ps sp ∧ mg x = some (.ref f) ∧ PySem.W.keepIn K (.ref f) = true ∧ Binds K fd ps [] ∧ kn ≤ k
structure LawF9 (P : Program) (w : World) (K : PySem.W.Frag) (mg : Str → Option Value) (base : Heap) (C : Addr) (k : Nat) (eN : Addr) : Prop where
  ce : Fc P w K mg base k "_law_cell_at" ["_law_script", "_law_k"] (spT K C [.bor, .val] (fun a : List Int × Nat => [.scr a.1, .int (a.2 : Nat)]) (fun _ => True) outCe)
  st : Fc P w K mg base k "_law_stream" ["_law_cell", "_law_many"] (spT K C [.val, .val] (fun a : Int × Nat => [.int a.1, .int (a.2 : Nat)]) (fun a => a.2 ≤ 1000) outSt)
  dw : Fc P w K mg base k "_law_drawn" ["_law_x", "_law_most"] (spT K C [.val, .val] (fun a : Int × Nat => [.int a.1, .int (a.2 : Nat)]) (fun a => a.2 ≤ 100) outDn)
  fg : Fc P w K mg base k "_law_falling" ["_law_drawing", "_law_sign"] (spT K C [.val, .val] encFg preFg outFg)
  lf : Fc P w K mg base k "_law_fall" ["_law_passes"] (spT K C [.val] (fun ps : List Int => [.tup (ps.map .int)]) (fun ps => ps.length ≤ 1000) (fun ps => .ret .val (kindD (kindM ps))))
  rf : Fc P w K mg base k "_law_refused" ["_law_drawing"] (spT K C [.val] encFo preRn (fun _ => .ret .val (.bl true)))
  fa : Fc P w K mg base k "fall" ["drawing"] (spT K C [.val] encFo preFa outFo)
  un : Fc P w K mg base k "undone" ["drawing"] (spT K C [.val] encFo preUn (outUn eN))
abbrev preLw : List Int → Prop := fun ns => ns.length ≤ 63
abbrev outLw : List Int → Out := fun _ => .ret .val (.bl true)
theorem kind_fl9 (k : Option Bool) : fl 8 (kindD k) = true := by cases k with
  | none => rfl
  | some b => exact kind_fl b 8
theorem ok_law {f : Addr} {fd : FuncData} {eN : Addr} (T : Tx mg) (F : Fun K "law" "law" s_law f fd) (R : LawF9 P w K mg base C k eN) :
    FnOk P w K mg base (L2.CX P w) (k + 1) f fd ["_law_script"] (spT K C [.bor] (fun ns : List Int => [.scr ns]) preLw outLw) := by
  refine ok_of F sc_law rfl fun cdv A outer s H E hr Hb ns _ => ?_
  have hu := hu_of hr
  have hu2 := units2 hr
  obtain ⟨f1, fd1, k1, F1, g1, q1, b1, hk1⟩ := R.ce
  obtain ⟨f2, fd2, k2, F2, g2, q2, b2, hk2⟩ := R.st
  obtain ⟨f3, fd3, k3, F3, g3, q3, b3, hk3⟩ := R.dw
  obtain ⟨f4, fd4, k4, F4, g4, q4, b4, hk4⟩ := R.fg
  obtain ⟨f5, fd5, k5, F5, g5, q5, b5, hk5⟩ := R.lf
  obtain ⟨f6, fd6, k6, F6, g6, q6, b6, hk6⟩ := R.rf
  obtain ⟨f7, fd7, k7, F7, g7, q7, b7, hk7⟩ := R.fa
  obtain ⟨f8, fd8, k8, F8, g8, q8, b8, hk8⟩ := R.un
  show DSs _ _ _ [.bor (.scr ns), .any, .any, .any, .any, .any, .any, .any, .any, .any] _ (poOf (.ret .val (.bl true)))
  refine dss_seq (ds_set (i := 1) (m := .val) (d := drD (drawnPs (ns.getD 0 0) 7) (drawnTs (ns.getD 0 0) 7)) (de_call F3 (hr.mono hk3) rfl g3 q3 b3 (l := [(.val, .int (ns.getD 0 0)), (.val, .int 7)]) (da_cons (m := .val) (de_call F1 (hr.mono hk1) rfl g1 q1 b1 (l := [(.old, .scr ns), (.val, .int 0)]) (da_cons (m := .old) (by kct_strs) (da_cons (m := .val) (by repeat' tb_rel) (da_nil rfl))) (ns, 0) rfl rfl trivial rfl) (da_cons (m := .val) (by repeat' tb_rel) (da_nil rfl))) (ns.getD 0 0, 7) rfl rfl (by show (7 : Nat) ≤ 100; decide) rfl) rfl sc_law.nd rfl (by first | exact Or.inl rfl | exact Or.inr rfl) (by o_fieldsN) rfl) ?_
  obtain ⟨hcf0, h10⟩ := drawn_cf (ns.getD 0 0) 7 (by decide)
  generalize drawnPs (ns.getD 0 0) 7 = ps0 at *
  generalize drawnTs (ns.getD 0 0) 7 = ts0 at *
  show DSs _ _ _ [.bor (.scr ns), .val (drD ps0 ts0), .any, .any, .any, .any, .any, .any, .any, .any] _ _
  have hx0 : atI (streamM (ns.getD 1 0) 1) 0 = some ((streamM (ns.getD 1 0) 1).getD 0 0) := getD_of (l := streamM (ns.getD 1 0) 1) (x := 0) (by decide) (by rw [streamM_len]; decide)
  refine dss_seq (ds_set (i := 2) (m := .val) (d := .int ((streamM (ns.getD 1 0) 1).getD 0 0)) (de_ix (m1 := .val) (d1 := .lst ((streamM (ns.getD 1 0) 1).map .int)) (m2 := .val) (d2 := .int 0) (de_call F2 (hr.mono hk2) rfl g2 q2 b2 (l := [(.val, .int (ns.getD 1 0)), (.val, .int 1)]) (da_cons (m := .val) (de_call F1 (hr.mono hk1) rfl g1 q1 b1 (l := [(.old, .scr ns), (.val, .int 1)]) (da_cons (m := .old) (by kct_strs) (da_cons (m := .val) (by repeat' tb_rel) (da_nil rfl))) (ns, 1) rfl rfl trivial rfl) (da_cons (m := .val) (by repeat' tb_rel) (da_nil rfl))) (ns.getD 1 0, 1) rfl rfl (by show (1 : Nat) ≤ 1000; decide) rfl) (by repeat' tb_rel) (ix_li hx0) (fun _ _ => rfl)) rfl sc_law.nd rfl (by first | exact Or.inl rfl | exact Or.inr rfl) (by o_fieldsN) rfl) ?_
  generalize (streamM (ns.getD 1 0) 1).getD 0 0 = x at *
  show DSs _ _ _ [.bor (.scr ns), .val (drD ps0 ts0), .val (.int x), .any, .any, .any, .any, .any, .any, .any] _ _
  refine dss_cons (M := fun δ => ∃ ps ts, δ = [.bor (.scr ns), .val (drD ps ts), .val (.int x), .any, .any, .any, .any, .any, .any, .any] ∧ CF ps ts) (ds_if (k := decide (0 < x % 4)) (by repeat' tb_rel) (fun _ => ?_) (fun _ => dss_nil rfl ⟨ps0, ts0, rfl, hcf0⟩)) ?_
  · have h40 := (drD_parts hcf0.dr).1
    have hl := (drD_parts hcf0.dr).2.1
    have hpm := atI_pm2 (x / 4)
    refine dss_one (ds_set (i := 1) (m := .val) (d := drD (flPs (fallP ps0 (if x / 4 % 2 = 1 then -1 else 1)) ps0) (flTs (fallP ps0 (if x / 4 % 2 = 1 then -1 else 1)) ts0)) (de_call F4 (hr.mono hk4) rfl g4 q4 b4 (l := [(.val, drD ps0 ts0), (.val, .int (if x / 4 % 2 = 1 then -1 else 1))]) (da_cons (m := .val) (by kct_strs) (da_cons (m := .val) ?_ (da_nil rfl))) ((ps0, ts0), (if x / 4 % 2 = 1 then -1 else 1)) rfl rfl ⟨by show ps0.length ≤ 1000; omega, by show ts0.length ≤ 1000; omega, by show (if x / 4 % 2 = 1 then (-1 : Int) else 1) = 1 ∨ (if x / 4 % 2 = 1 then (-1 : Int) else 1) = -1; split <;> simp⟩ rfl) rfl sc_law.nd rfl (by first | exact Or.inl rfl | exact Or.inr rfl) (by o_fieldsN) ⟨_, _, rfl, cf_flip hcf0⟩)
    refine de_ix (m1 := .fr) (d1 := .lst [.int 1, .int (-1)]) (m2 := .val) (d2 := .int (x / 4 % 2)) ?_ (by repeat' tb_rel) (ix_l hpm) (fun _ _ => rfl)
    exact de_lst (l := [(.val, .int 1), (.val, .int (-1))]) (da_cons (m := .val) (by repeat' tb_rel) (da_cons (m := .val) (by repeat' tb_rel) (da_nil rfl))) rfl (by show 2 ≤ 100000; decide)
  rintro _ ⟨ps, ts, rfl, hcf⟩
  clear hcf0 h10
  obtain ⟨h40, hl, hap, hpm⟩ := drD_parts hcf.dr
  have lent : ∀ {δ : List Sl}, True := fun {_} => trivial
  refine dss_cons (M := fun δ => ∃ ps ts o3 o4 o5, δ = [.bor (.scr ns), .val (drD ps ts), .val (.int x), o3, o4, o5, .any, .any, .any, .any] ∧ CF ps ts) (ds_if (k := decide (x % 4 = 3) && decide (0 < ((((ts.map D.int).length : Nat)) : Int))) ?_ (fun hc => ?_) (fun _ => dss_nil rfl ⟨ps, ts, .any, .any, .any, rfl, hcf⟩)) ?_
  · refine DW.dt (dw_and (by repeat' tb_rel) fun _ => dw_and1 (dt_cm (m1 := .val) (d1 := .int ((((ts.map D.int).length : Nat)) : Int)) (m2 := .val) (d2 := .int 0) ?_ (by repeat' tb_rel) (by repeat' tb_rel)))
    exact de_callB (id := "len") (da_cons (m := .val) (d := .tup (ts.map .int)) (de_ix (m1 := .val) (d1 := drD ps ts) (m2 := .val) (d2 := .int 1) (by kct_strs) (by repeat' tb_rel) (ix_t rfl) (fun _ _ => rfl)) (da_nil rfl)) c_lenT rfl T.b_len boot_len
  · have hpos : 0 < ((((ts.map D.int).length : Nat)) : Int) := by
      rw [Bool.and_eq_true] at hc
      exact of_decide_eq_true hc.2
    refine dss_seq (ds_set (i := 3) (m := .val) (d := .int (1 + x / 8 % ((((ts.map D.int).length : Nat)) : Int))) ?_ rfl sc_law.nd rfl (by first | exact Or.inl rfl | exact Or.inr rfl) (by o_fieldsN) rfl) ?_
    · refine de_bin (m1 := .val) (d1 := .int 1) (m2 := .val) (d2 := .int (x / 8 % ((((ts.map D.int).length : Nat)) : Int))) (by repeat' tb_rel) (de_bin (m1 := .val) (d1 := .int (x / 8)) (m2 := .val) (d2 := .int ((((ts.map D.int).length : Nat)) : Int)) (by repeat' tb_rel) ?_ (o_mod hpos)) (by repeat' tb_rel)
      exact de_callB (id := "len") (da_cons (m := .val) (d := .tup (ts.map .int)) (de_ix (m1 := .val) (d1 := drD ps ts) (m2 := .val) (d2 := .int 1) (by kct_strs) (by repeat' tb_rel) (ix_t rfl) (fun _ _ => rfl)) (da_nil rfl)) c_lenT rfl T.b_len boot_len
    generalize 1 + x / 8 % ((((ts.map D.int).length : Nat)) : Int) = n at *
    show DSs _ _ _ [.bor (.scr ns), .val (drD ps ts), .val (.int x), .val (.int n), .any, .any, .any, .any, .any, .any] _ _
    have e1 : (ps.filter fun _ => true).map (fun y => D.int (if decide (iabs y = n) = true then -y else y)) = (flPs (fun y => decide (y = n)) ps).map .int := by
      unfold flPs
      rw [List.filter_true, List.map_map]
      rfl
    refine dss_seq (ds_set (i := 4) (m := .val) (d := .tup ((flPs (fun y => decide (y = n)) ps).map .int)) ?_ rfl sc_law.nd rfl (by first | exact Or.inl rfl | exact Or.inr rfl) (by o_fieldsN) rfl) ?_
    · rw [← e1]
      exact de_callTy (T := "tuple") (da_cons (m := .fr) (de_lcT (m := .val) (enc := D.int) (ns := ps) (t := fun _ => true) (f := fun y => .int (if decide (iabs y = n) = true then -y else y)) (tg := .nm 8) (de_ix (m1 := .val) (d1 := drD ps ts) (m2 := .val) (d2 := .int 0) (by kct_strs) (by repeat' tb_rel) (ix_t rfl) (fun _ _ => rfl)) (lcp_no (own := [("_law_one", 8)]) rfl rfl sc_law.nd (blkOk_by rfl) (fun _ _ _ _ _ => dg_nm sc_law.nd rfl (by first | exact Or.inl rfl | exact Or.inr rfl)) (fun a _ => by show 8 < 10; decide) (by decide) (fun a _ _ _ _ _ _ => by repeat' tb_rel) (by omega))) (da_nil rfl)) (c_tupL (.inl rfl)) rfl T.b_tuple boot_tuple
    have e2 : ((List.range (((ts.map D.int).length : Nat) : Int).toNat).filter fun _ => true).map (fun i : Nat => D.int (if decide (((i : Nat) : Int) + 1 = n) = true then -(ts.getD i 0) else ts.getD i 0)) = (flTs (fun y => decide (y = n)) ts).map .int := by
      unfold flTs
      rw [List.filter_true, List.map_map, Int.toNat_natCast, List.length_map]
      rfl
    show DSs _ _ _ [.bor (.scr ns), .val (drD ps ts), .val (.int x), .val (.int n), .val (.tup ((flPs (fun y => decide (y = n)) ps).map .int)), .any, .any, .any, .any, .any] _ _
    refine dss_seq (ds_set (i := 5) (m := .val) (d := .tup ((flTs (fun y => decide (y = n)) ts).map .int)) ?_ rfl sc_law.nd rfl (by first | exact Or.inl rfl | exact Or.inr rfl) (by o_fieldsN) rfl) ?_
    · rw [← e2]
      refine de_callTy (T := "tuple") (da_cons (m := .fr) (de_lcR (m := .val) (n := (((ts.map D.int).length : Nat) : Int)) (t' := fun _ => true) (f' := fun i : Nat => .int (if decide (((i : Nat) : Int) + 1 = n) = true then -(ts.getD i 0) else ts.getD i 0)) (tg := .nm 9) rfl T.b_range ?_ (lcp_no (own := [("_law_at", 9)]) rfl rfl sc_law.nd (blkOk_by rfl) (fun _ _ _ _ _ => dg_nm sc_law.nd rfl (by first | exact Or.inl rfl | exact Or.inr rfl)) (fun a _ => by show 9 < 10; decide) (by decide) (fun i hi s' H' C' cl' fp' => ?_) (by rw [List.length_range]; simp; omega)) (by simp; omega) (by omega)) (da_nil rfl)) (c_tupL (.inl rfl)) rfl T.b_tuple boot_tuple
      · exact de_callB (id := "len") (da_cons (m := .val) (d := .tup (ts.map .int)) (de_ix (m1 := .val) (d1 := drD ps ts) (m2 := .val) (d2 := .int 1) (by kct_strs) (by repeat' tb_rel) (ix_t rfl) (fun _ _ => rfl)) (da_nil rfl)) c_lenT rfl T.b_len boot_len
      · have hi : i < ts.length := by have := List.mem_range.mp hi; simpa using this
        have ha : atI ts (i : Int) = some (ts.getD i 0) := getD_of (by omega) (by omega)
        have hat := atI_ints ha
        refine de_ifI (m1 := .val) (m2 := .val) (by repeat' tb_rel) (fun _ => de_neg (m := .val) ?_) (fun _ => ?_) <;>
        exact de_ix (m1 := .val) (d1 := .tup (ts.map .int)) (m2 := .val) (d2 := .int (i : Nat)) (de_ix (m1 := .val) (d1 := drD ps ts) (m2 := .val) (d2 := .int 1) (by kct_strs) (by repeat' tb_rel) (ix_t rfl) (fun _ _ => rfl)) (by repeat' tb_rel) (ix_ti ha) (fun _ _ => rfl)
    show DSs _ _ _ [.bor (.scr ns), .val (drD ps ts), .val (.int x), .val (.int n), .val (.tup ((flPs (fun y => decide (y = n)) ps).map .int)), .val (.tup ((flTs (fun y => decide (y = n)) ts).map .int)), .any, .any, .any, .any] _ _
    refine dss_one (ds_set (i := 1) (m := .val) (d := drD (flPs (fun y => decide (y = n)) ps) (flTs (fun y => decide (y = n)) ts)) (de_tup (l := [(.val, .tup ((flPs (fun y => decide (y = n)) ps).map .int)), (.val, .tup ((flTs (fun y => decide (y = n)) ts).map .int))]) (da_cons (m := .val) (by kct_strs) (da_cons (m := .val) (by kct_strs) (da_nil rfl))) rfl (by show 2 ≤ 100000; decide)) rfl sc_law.nd rfl (by first | exact Or.inl rfl | exact Or.inr rfl) (by o_fieldsN) ⟨_, _, _, _, _, rfl, cf_flip hcf⟩)
  clear hcf h40 hl hap hpm ps ts
  rintro _ ⟨ps, ts, o3, o4, o5, rfl, hcf⟩
  obtain ⟨h40, hl, hap, hpm⟩ := drD_parts hcf.dr
  have hl9 : ps.length ≤ 1000 := by omega
  refine dss_seq (ds_set (i := 6) (m := .val) (d := kindD (kindM ps)) (de_call F5 (hr.mono hk5) rfl g5 q5 b5 (l := [(.val, .tup (ps.map .int))]) (da_cons (m := .val) (de_ix (m1 := .val) (d1 := drD ps ts) (m2 := .val) (d2 := .int 0) (by kct_strs) (by repeat' tb_rel) (ix_t rfl) (fun _ _ => rfl)) (da_nil rfl)) ps rfl rfl hl9 rfl) (by cases kindM ps <;> rfl) sc_law.nd rfl (by first | exact Or.inl rfl | exact Or.inr rfl) (by o_fieldsN) rfl) ?_
  refine dss_seq (ds_set (i := 7) (m := .val) (d := kindD (kindM ps)) (de_call F7 (hr.mono hk7) rfl g7 q7 b7 (l := [(.val, drD ps ts)]) (da_cons (m := .val) (by kct_strs) (da_nil rfl)) (ps, ts) rfl rfl hcf.dr rfl) (by cases kindM ps <;> rfl) sc_law.nd rfl (by first | exact Or.inl rfl | exact Or.inr rfl) (by o_fieldsN) rfl) ?_
  show DSs _ _ _ [.bor (.scr ns), .val (drD ps ts), .val (.int x), o3, o4, o5, .val (kindD (kindM ps)), .val (kindD (kindM ps)), .any, .any] _ _
  have hfd := kind_fl9 (kindM ps)
  have hnil : isDrw (drD [] []) = true := kinks_is (b := fun _ => true) (n := 0) (by decide) rfl (fun t ht => by cases ht)
  have hne : ∀ d : D, fl 8 d = true → deq d d = true := fun d h => deq_refl h
  cases hk : kindM ps with
  | none =>
    show DSs _ _ _ [.bor (.scr ns), .val (drD ps ts), .val (.int x), o3, o4, o5, .val .non, .val .non, .any, .any] _ _
    refine dss_guard (k := (!deq .non .non) || ((!isNonD .non) && false)) (DW.dt (dw_or (k1 := !deq .non .non) (dt_cm (m1 := .val) (d1 := .non) (m2 := .val) (d2 := .non) (by kct_strs) (by kct_strs) (cm_of (o_ne 0 hr.units rfl rfl rfl) (by first | rfl | exact nomark _))) fun _ => dw_or1 (DW.dt (dw_and (k1 := !isNonD .non) (k2 := false) (dt_cm (m1 := .val) (d1 := .non) (m2 := .val) (d2 := .non) (by kct_strs) (by repeat' tb_rel) (cm_of o_notN (by first | rfl | exact nomark _))) fun z => by cases z)))) (fun h => by rw [hne .non rfl] at h; cases h) (fun _ => ?_)
    refine dss_one (ds_retE (m := .val) (d := .bl (true && deq (.str "over") (.str "over"))) (d' := .bl true) (de_and (m1 := .val) (m2 := .val) (k1 := true) (de_ifT ?_ ?_) fun _ => de_one ?_) rfl (by rw [hne (.str "over") (kind_fl true 8)]; rfl) rfl)
    · exact dt_cm (k := isNonD .non) (m1 := .val) (d1 := .non) (m2 := .val) (d2 := .non) (by kct_strs) (by repeat' tb_rel) (cm_of o_isN (by first | rfl | exact nomark _))
    · exact de_call F6 (hr.mono hk6) rfl g6 q6 b6 (l := [(.val, drD ps ts)]) (da_cons (m := .val) (by kct_strs) (da_nil rfl)) (ps, ts) rfl rfl ⟨hcf, hk⟩ rfl
    · exact de_cm (m1 := .val) (d1 := .str "over") (m2 := .val) (d2 := .str "over") (DE.cast (d := kindD (kindM [])) (de_call F7 (hr.mono hk7) rfl g7 q7 b7 (l := [(.val, drD [] [])]) (da_cons (m := .val) (de_tup (l := [(.val, .tup []), (.val, .tup [])]) (da_cons (m := .val) (de_tup (l := []) (da_nil rfl) rfl (by decide)) (da_cons (m := .val) (de_tup (l := []) (da_nil rfl) rfl (by decide)) (da_nil rfl))) rfl (by show 2 ≤ 100000; decide)) (da_nil rfl)) ([], []) rfl rfl hnil rfl) rfl) (by repeat' tb_rel) (cv_of (o_eq 0 hr.units (kind_fl true 8) (kind_fl true 8) rfl) (by first | rfl | exact nomark _))
  | some b =>
    have eo : outUn eN (ps, ts) = .ret .val (.lst ((undoM ts.length ps ts).map (loopD b))) := by unfold outUn; rw [hk]
    show DSs _ _ _ [.bor (.scr ns), .val (drD ps ts), .val (.int x), o3, o4, o5, .val (.str (kindS b)), .val (.str (kindS b)), .any, .any] _ _
    refine dss_guard (k := (!deq (.str (kindS b)) (.str (kindS b))) || ((!isNonD (.str (kindS b))) && (!true))) (DW.dt (dw_or (k1 := !deq (.str (kindS b)) (.str (kindS b))) (dt_cm (m1 := .val) (d1 := .str (kindS b)) (m2 := .val) (d2 := .str (kindS b)) (by kct_strs) (by kct_strs) (cm_of (o_ne 0 hr.units (kind_fl b 8) (kind_fl b 8) rfl) (by first | rfl | exact nomark _))) fun _ => dw_or1 (DW.dt (dw_and (k1 := !isNonD (.str (kindS b))) (k2 := !true) (dt_cm (m1 := .val) (d1 := .str (kindS b)) (m2 := .val) (d2 := .non) (by kct_strs) (by repeat' tb_rel) (cm_of o_notN (by first | rfl | exact nomark _))) fun _ => dw_and1 (dt_not (dt_val (de_isi (n := "str") (m := .val) (d := .str (kindS b)) (by kct_strs) rfl rfl rfl T.b_isinstance rfl T.b_str rfl))))))) (fun h => by rw [hne (.str (kindS b)) (kind_fl b 8)] at h; cases h) (fun _ => ?_)
    refine dss_one (ds_retE (m := .val) (d := .bl (true && deq (.str "over") (.str "over"))) (d' := .bl true) (de_and (m1 := .val) (m2 := .val) (k1 := true) (de_ifF ?_ ?_) fun _ => de_one ?_) rfl (by rw [hne (.str "over") (kind_fl true 8)]; rfl) rfl)
    · exact dt_cm (k := isNonD (.str (kindS b))) (m1 := .val) (d1 := .str (kindS b)) (m2 := .val) (d2 := .non) (by kct_strs) (by repeat' tb_rel) (cm_of o_isN (by first | rfl | exact nomark _))
    · exact de_isi (n := "list") (m := .val) (d := .lst ((undoM ts.length ps ts).map (loopD b))) (de_call F8 (hr.mono hk8) rfl g8 q8 b8 (l := [(.val, drD ps ts)]) (da_cons (m := .val) (by kct_strs) (da_nil rfl)) (ps, ts) rfl rfl hcf eo) rfl (kit_lst rfl) rfl T.b_isinstance rfl T.b_list rfl
    · exact de_cm (m1 := .val) (d1 := .str "over") (m2 := .val) (d2 := .str "over") (DE.cast (d := kindD (kindM [])) (de_call F7 (hr.mono hk7) rfl g7 q7 b7 (l := [(.val, drD [] [])]) (da_cons (m := .val) (de_tup (l := [(.val, .tup []), (.val, .tup [])]) (da_cons (m := .val) (de_tup (l := []) (da_nil rfl) rfl (by decide)) (da_cons (m := .val) (de_tup (l := []) (da_nil rfl) rfl (by decide)) (da_nil rfl))) rfl (by show 2 ≤ 100000; decide)) (da_nil rfl)) ([], []) rfl rfl hnil rfl) rfl) (by repeat' tb_rel) (cv_of (o_eq 0 hr.units (kind_fl true 8) (kind_fl true 8) rfl) (by first | rfl | exact nomark _))
end

def spLw (K : PySem.W.Frag) : Sp := fun vs H Q _ => ∃ (a : Addr) (ns : List Int), vs = [.ref a] ∧ SqL K H a (ns.map V.int) ∧ ns.length ≤ 63 ∧ ∀ H', Q (.bl true) H'
theorem exm_of {K : PySem.W.Frag} {S R : Addr} (h1 : PySem.W.subIn K (.ref R) (.type "BaseException") = some true) (h2 : PySem.W.isClsIn K R = true) (h3 : PySem.W.typeIn K (.ref R) = some (.type "type")) (h4 : PySem.W.subIn K (.ref S) (.ref R) = some true) :
    PySem.W.exmOne K (.ref S) (.ref R) = some true := by
  have e2 : (PySem.W.clsIn K R).isSome = true := h2
  unfold PySem.W.exmOne PySem.W.kitCls
  simp only [h1, h3, h4, e2]
  rfl
theorem walk {l : PySem.W.OpenLaw} {q : Program} {loose : List Str} {XP : (Str → Option Value) → Heap → Prop} {YP : World → Heap → Prop} {d : DefRec} {K : Params → PySem.W.Frag} (hn : l.most = some 63) (hdf : d.params.defaults = [])
    (hY : ∀ (w : World) (h : Heap), YP w h → (K w.params).In h)
    (F : ∀ (w : World) (mg : Str → Option Value) (fa : Addr) (h : Heap), (K w.params).In h → h.Ns mainGlobals mg → mg d.name = some (.ref fa) →
      ∃ C : Addr, ∃ fd : FuncData, (∀ (s : Shared) (u : Value), BindsTo s fd ⟨[u], []⟩ [("_law_script", u)]) ∧ ∀ base : Heap, (K w.params).In base → base.Ns mainGlobals mg → FnOk l.prog w (K w.params) mg base (L2.CX l.prog w) 10 fa fd ["_law_script"] (spT (K w.params) C [.bor] (fun ns : List Int => [.scr ns]) preLw outLw)) :
    PySem.W.WalkO q loose XP YP l.row.toRowW d [] (fun f vs => PySem.call f vs) := by
  refine L2.walk_of (n := 63) (k := 10) (x := "_law_script") (CX := fun w => L2.CX l.prog w) (sp := fun w => spLw (K w.params)) hn (by decide) hdf ⟨rfl, by decide, by decide⟩ hY (fun w mg fa h KX G hm => ?_) (fun w H a ns hl _ hS => ⟨a, ns, rfl, hS, hl, fun _ => rfl⟩) fun _ _ _ _ _ h => ?_
  · obtain ⟨C, fd, hb, hF⟩ := F w mg fa h KX G hm
    refine ⟨fd, hb, fun base h1 h2 => (hF base h1 h2).imp fun vs H Q E ⟨a, ns, e, hS, hl, q⟩ => ?_⟩
    subst e
    exact ⟨ns, H, Ex.refl H, .bor (.scr hS) .nil, hl, fun v S' g r => by rw [r.blI]; exact q _⟩
  · obtain ⟨_, _, _, _, _, _, _, _, _, _, _, _, z⟩ := h
    exact z
theorem all_mk {P : Program} {w : World} {K : PySem.W.Frag} {h : Heap} {mg : Str → Option Value} {fa C f1 f2 f3 f4 f5 f6 f7 f8 f9 f10 f11 f12 f13 f14 f15 f16 f17 f18 f19 f20 f21 f22 f23 f24 f25 f26 f27 f28 f29 f30 f31 f32 f33 e_NoDrawing e_NotFalling e_RopeError : Addr} (X : K.In h) (G : h.Ns mainGlobals mg) (hfa : mg "law" = some (.ref fa))
    {od1 an1 od2 an2 od3 an3 od4 an4 od5 an5 od6 an6 od7 an7 od8 an8 od9 an9 od10 an10 od11 an11 od12 an12 od13 an13 od14 an14 od15 an15 od16 an16 od17 an17 od18 an18 od19 an19 od20 an20 od21 an21 od22 an22 od23 an23 od24 an24 od25 an25 od26 an26 od27 an27 od28 an28 od29 an29 od30 an30 od31 an31 od32 an32 od33 an33 : Option Addr} {sl1 sl2 sl3 sl4 sl5 sl6 sl7 sl8 sl9 sl10 sl11 sl12 sl13 sl14 sl15 sl16 sl17 sl18 sl19 sl20 sl21 sl22 sl23 sl24 sl25 sl26 sl27 sl28 sl29 sl30 sl31 sl32 sl33 : Array (Option Value)} {oc1 kV1 dc1 pm1 cd1 ct1 oc2 kV2 dc2 pm2 cd2 ct2 oc3 kV3 dc3 pm3 cd3 ct3 oc4 kV4 dc4 pm4 cd4 ct4 oc5 kV5 dc5 pm5 cd5 ct5 oc6 kV6 dc6 pm6 cd6 ct6 oc7 kV7 dc7 pm7 cd7 ct7 oc8 kV8 dc8 pm8 cd8 ct8 oc9 kV9 dc9 pm9 cd9 ct9 oc10 kV10 dc10 pm10 cd10 ct10 oc11 kV11 dc11 pm11 cd11 ct11 oc12 kV12 dc12 pm12 cd12 ct12 oc13 kV13 dc13 pm13 cd13 ct13 oc14 kV14 dc14 pm14 cd14 ct14 oc15 kV15 dc15 pm15 cd15 ct15 oc16 kV16 dc16 pm16 cd16 ct16 oc17 kV17 dc17 pm17 cd17 ct17 oc18 kV18 dc18 pm18 cd18 ct18 oc19 kV19 dc19 pm19 cd19 ct19 oc20 kV20 dc20 pm20 cd20 ct20 oc21 kV21 dc21 pm21 cd21 ct21 oc22 kV22 dc22 pm22 cd22 ct22 oc23 kV23 dc23 pm23 cd23 ct23 oc24 kV24 dc24 pm24 cd24 ct24 oc25 kV25 dc25 pm25 cd25 ct25 oc26 kV26 dc26 pm26 cd26 ct26 oc27 kV27 dc27 pm27 cd27 ct27 oc28 kV28 dc28 pm28 cd28 ct28 oc29 kV29 dc29 pm29 cd29 ct29 oc30 kV30 dc30 pm30 cd30 ct30 oc31 kV31 dc31 pm31 cd31 ct31 oc32 kV32 dc32 pm32 cd32 ct32 oc33 kV33 dc33 pm33 cd33 ct33 : Value} {tk_MARK tk_MOST : Tok}
    {D_SIGNS : Addr} {es_SIGNS : Array DictEntry} {n_SIGNS : Nat} {tD_SIGNS_0 : Tok} {tD_SIGNS_1 : Tok}
    (a1 : PySem.W.nsIn K mainGlobals "is_number" = some (some (.ref f1)))
    (l1 : K.lookup f1 = some ⟨oc1, od1, .func (PySem.W.fnOf "is_number" "is_number" (defArgs s_is_number) (defBody s_is_number) (defScope s_is_number) .none kV1 dc1 pm1 an1 cd1 ct1), sl1⟩) (c1 : PySem.W.codeIn K cd1 "is_number" = true) (k1 : PySem.W.keepIn K (.ref f1) = true)
    (a2 : PySem.W.nsIn K mainGlobals "are_passes" = some (some (.ref f2)))
    (l2 : K.lookup f2 = some ⟨oc2, od2, .func (PySem.W.fnOf "are_passes" "are_passes" (defArgs s_are_passes) (defBody s_are_passes) (defScope s_are_passes) .none kV2 dc2 pm2 an2 cd2 ct2), sl2⟩) (c2 : PySem.W.codeIn K cd2 "are_passes" = true) (k2 : PySem.W.keepIn K (.ref f2) = true)
    (a3 : PySem.W.nsIn K mainGlobals "are_turns" = some (some (.ref f3)))
    (l3 : K.lookup f3 = some ⟨oc3, od3, .func (PySem.W.fnOf "are_turns" "are_turns" (defArgs s_are_turns) (defBody s_are_turns) (defScope s_are_turns) .none kV3 dc3 pm3 an3 cd3 ct3), sl3⟩) (c3 : PySem.W.codeIn K cd3 "are_turns" = true) (k3 : PySem.W.keepIn K (.ref f3) = true)
    (a4 : PySem.W.nsIn K mainGlobals "is_drawing" = some (some (.ref f4)))
    (l4 : K.lookup f4 = some ⟨oc4, od4, .func (PySem.W.fnOf "is_drawing" "is_drawing" (defArgs s_is_drawing) (defBody s_is_drawing) (defScope s_is_drawing) .none kV4 dc4 pm4 an4 cd4 ct4), sl4⟩) (c4 : PySem.W.codeIn K cd4 "is_drawing" = true) (k4 : PySem.W.keepIn K (.ref f4) = true)
    (a5 : PySem.W.nsIn K mainGlobals "need_drawing" = some (some (.ref f5)))
    (l5 : K.lookup f5 = some ⟨oc5, od5, .func (PySem.W.fnOf "need_drawing" "need_drawing" (defArgs s_need_drawing) (defBody s_need_drawing) (defScope s_need_drawing) .none kV5 dc5 pm5 an5 cd5 ct5), sl5⟩) (c5 : PySem.W.codeIn K cd5 "need_drawing" = true) (k5 : PySem.W.keepIn K (.ref f5) = true)
    (a6 : PySem.W.nsIn K mainGlobals "cut_open" = some (some (.ref f6)))
    (l6 : K.lookup f6 = some ⟨oc6, od6, .func (PySem.W.fnOf "cut_open" "cut_open" (defArgs s_cut_open) (defBody s_cut_open) (defScope s_cut_open) .none kV6 dc6 pm6 an6 cd6 ct6), sl6⟩) (c6 : PySem.W.codeIn K cd6 "cut_open" = true) (k6 : PySem.W.keepIn K (.ref f6) = true)
    (a7 : PySem.W.nsIn K mainGlobals "numbered" = some (some (.ref f7)))
    (l7 : K.lookup f7 = some ⟨oc7, od7, .func (PySem.W.fnOf "numbered" "numbered" (defArgs s_numbered) (defBody s_numbered) (defScope s_numbered) .none kV7 dc7 pm7 an7 cd7 ct7), sl7⟩) (c7 : PySem.W.codeIn K cd7 "numbered" = true) (k7 : PySem.W.keepIn K (.ref f7) = true)
    (a8 : PySem.W.nsIn K mainGlobals "need_stretch" = some (some (.ref f8)))
    (l8 : K.lookup f8 = some ⟨oc8, od8, .func (PySem.W.fnOf "need_stretch" "need_stretch" (defArgs s_need_stretch) (defBody s_need_stretch) (defScope s_need_stretch) .none kV8 dc8 pm8 an8 cd8 ct8), sl8⟩) (c8 : PySem.W.codeIn K cd8 "need_stretch" = true) (k8 : PySem.W.keepIn K (.ref f8) = true)
    (a9 : PySem.W.nsIn K mainGlobals "laid_on" = some (some (.ref f9)))
    (l9 : K.lookup f9 = some ⟨oc9, od9, .func (PySem.W.fnOf "laid_on" "laid_on" (defArgs s_laid_on) (defBody s_laid_on) (defScope s_laid_on) .none kV9 dc9 pm9 an9 cd9 ct9), sl9⟩) (c9 : PySem.W.codeIn K cd9 "laid_on" = true) (k9 : PySem.W.keepIn K (.ref f9) = true)
    (a10 : PySem.W.nsIn K mainGlobals "closed" = some (some (.ref f10)))
    (l10 : K.lookup f10 = some ⟨oc10, od10, .func (PySem.W.fnOf "closed" "closed" (defArgs s_closed) (defBody s_closed) (defScope s_closed) .none kV10 dc10 pm10 an10 cd10 ct10), sl10⟩) (c10 : PySem.W.codeIn K cd10 "closed" = true) (k10 : PySem.W.keepIn K (.ref f10) = true)
    (a11 : PySem.W.nsIn K mainGlobals "lay" = some (some (.ref f11)))
    (l11 : K.lookup f11 = some ⟨oc11, od11, .func (PySem.W.fnOf "lay" "lay" (defArgs s_lay) (defBody s_lay) (defScope s_lay) .none kV11 dc11 pm11 an11 cd11 ct11), sl11⟩) (c11 : PySem.W.codeIn K cd11 "lay" = true) (k11 : PySem.W.keepIn K (.ref f11) = true)
    (a12 : PySem.W.nsIn K mainGlobals "firsts" = some (some (.ref f12)))
    (l12 : K.lookup f12 = some ⟨oc12, od12, .func (PySem.W.fnOf "firsts" "firsts" (defArgs s_firsts) (defBody s_firsts) (defScope s_firsts) .none kV12 dc12 pm12 an12 cd12 ct12), sl12⟩) (c12 : PySem.W.codeIn K cd12 "firsts" = true) (k12 : PySem.W.keepIn K (.ref f12) = true)
    (a13 : PySem.W.nsIn K mainGlobals "fall_of" = some (some (.ref f13)))
    (l13 : K.lookup f13 = some ⟨oc13, od13, .func (PySem.W.fnOf "fall_of" "fall_of" (defArgs s_fall_of) (defBody s_fall_of) (defScope s_fall_of) .none kV13 dc13 pm13 an13 cd13 ct13), sl13⟩) (c13 : PySem.W.codeIn K cd13 "fall_of" = true) (k13 : PySem.W.keepIn K (.ref f13) = true)
    (a14 : PySem.W.nsIn K mainGlobals "fall" = some (some (.ref f14)))
    (l14 : K.lookup f14 = some ⟨oc14, od14, .func (PySem.W.fnOf "fall" "fall" (defArgs s_fall) (defBody s_fall) (defScope s_fall) .none kV14 dc14 pm14 an14 cd14 ct14), sl14⟩) (c14 : PySem.W.codeIn K cd14 "fall" = true) (k14 : PySem.W.keepIn K (.ref f14) = true)
    (a15 : PySem.W.nsIn K mainGlobals "first_loop" = some (some (.ref f15)))
    (l15 : K.lookup f15 = some ⟨oc15, od15, .func (PySem.W.fnOf "first_loop" "first_loop" (defArgs s_first_loop) (defBody s_first_loop) (defScope s_first_loop) .none kV15 dc15 pm15 an15 cd15 ct15), sl15⟩) (c15 : PySem.W.codeIn K cd15 "first_loop" = true) (k15 : PySem.W.keepIn K (.ref f15) = true)
    (a16 : PySem.W.nsIn K mainGlobals "undone" = some (some (.ref f16)))
    (l16 : K.lookup f16 = some ⟨oc16, od16, .func (PySem.W.fnOf "undone" "undone" (defArgs s_undone) (defBody s_undone) (defScope s_undone) .none kV16 dc16 pm16 an16 cd16 ct16), sl16⟩) (c16 : PySem.W.codeIn K cd16 "undone" = true) (k16 : PySem.W.keepIn K (.ref f16) = true)
    (a17 : PySem.W.nsIn K mainGlobals "_law_cell_at" = some (some (.ref f17)))
    (l17 : K.lookup f17 = some ⟨oc17, od17, .func (PySem.W.fnOf "_law_cell_at" "_law_cell_at" (defArgs s_law_cell_at) (defBody s_law_cell_at) (defScope s_law_cell_at) .none kV17 dc17 pm17 an17 cd17 ct17), sl17⟩) (c17 : PySem.W.codeIn K cd17 "_law_cell_at" = true) (k17 : PySem.W.keepIn K (.ref f17) = true)
    (a18 : PySem.W.nsIn K mainGlobals "_law_stream" = some (some (.ref f18)))
    (l18 : K.lookup f18 = some ⟨oc18, od18, .func (PySem.W.fnOf "_law_stream" "_law_stream" (defArgs s_law_stream) (defBody s_law_stream) (defScope s_law_stream) .none kV18 dc18 pm18 an18 cd18 ct18), sl18⟩) (c18 : PySem.W.codeIn K cd18 "_law_stream" = true) (k18 : PySem.W.keepIn K (.ref f18) = true)
    (a19 : PySem.W.nsIn K mainGlobals "_law_numbered" = some (some (.ref f19)))
    (l19 : K.lookup f19 = some ⟨oc19, od19, .func (PySem.W.fnOf "_law_numbered" "_law_numbered" (defArgs s_law_numbered) (defBody s_law_numbered) (defScope s_law_numbered) .none kV19 dc19 pm19 an19 cd19 ct19), sl19⟩) (c19 : PySem.W.codeIn K cd19 "_law_numbered" = true) (k19 : PySem.W.keepIn K (.ref f19) = true)
    (a20 : PySem.W.nsIn K mainGlobals "_law_cycles" = some (some (.ref f20)))
    (l20 : K.lookup f20 = some ⟨oc20, od20, .func (PySem.W.fnOf "_law_cycles" "_law_cycles" (defArgs s_law_cycles) (defBody s_law_cycles) (defScope s_law_cycles) .none kV20 dc20 pm20 an20 cd20 ct20), sl20⟩) (c20 : PySem.W.codeIn K cd20 "_law_cycles" = true) (k20 : PySem.W.keepIn K (.ref f20) = true)
    (a21 : PySem.W.nsIn K mainGlobals "_law_braid" = some (some (.ref f21)))
    (l21 : K.lookup f21 = some ⟨oc21, od21, .func (PySem.W.fnOf "_law_braid" "_law_braid" (defArgs s_law_braid) (defBody s_law_braid) (defScope s_law_braid) .none kV21 dc21 pm21 an21 cd21 ct21), sl21⟩) (c21 : PySem.W.codeIn K cd21 "_law_braid" = true) (k21 : PySem.W.keepIn K (.ref f21) = true)
    (a22 : PySem.W.nsIn K mainGlobals "_law_drawn" = some (some (.ref f22)))
    (l22 : K.lookup f22 = some ⟨oc22, od22, .func (PySem.W.fnOf "_law_drawn" "_law_drawn" (defArgs s_law_drawn) (defBody s_law_drawn) (defScope s_law_drawn) .none kV22 dc22 pm22 an22 cd22 ct22), sl22⟩) (c22 : PySem.W.codeIn K cd22 "_law_drawn" = true) (k22 : PySem.W.keepIn K (.ref f22) = true)
    (a23 : PySem.W.nsIn K mainGlobals "_law_falling" = some (some (.ref f23)))
    (l23 : K.lookup f23 = some ⟨oc23, od23, .func (PySem.W.fnOf "_law_falling" "_law_falling" (defArgs s_law_falling) (defBody s_law_falling) (defScope s_law_falling) .none kV23 dc23 pm23 an23 cd23 ct23), sl23⟩) (c23 : PySem.W.codeIn K cd23 "_law_falling" = true) (k23 : PySem.W.keepIn K (.ref f23) = true)
    (a24 : PySem.W.nsIn K mainGlobals "_law_fall" = some (some (.ref f24)))
    (l24 : K.lookup f24 = some ⟨oc24, od24, .func (PySem.W.fnOf "_law_fall" "_law_fall" (defArgs s_law_fall) (defBody s_law_fall) (defScope s_law_fall) .none kV24 dc24 pm24 an24 cd24 ct24), sl24⟩) (c24 : PySem.W.codeIn K cd24 "_law_fall" = true) (k24 : PySem.W.keepIn K (.ref f24) = true)
    (a25 : PySem.W.nsIn K mainGlobals "_law_refused" = some (some (.ref f25)))
    (l25 : K.lookup f25 = some ⟨oc25, od25, .func (PySem.W.fnOf "_law_refused" "_law_refused" (defArgs s_law_refused) (defBody s_law_refused) (defScope s_law_refused) .none kV25 dc25 pm25 an25 cd25 ct25), sl25⟩) (c25 : PySem.W.codeIn K cd25 "_law_refused" = true) (k25 : PySem.W.keepIn K (.ref f25) = true)
    (a26 : PySem.W.nsIn K mainGlobals "law" = some (some (.ref f26)))
    (l26 : K.lookup f26 = some ⟨oc26, od26, .func (PySem.W.fnOf "law" "law" (defArgs s_law) (defBody s_law) (defScope s_law) .none kV26 dc26 pm26 an26 cd26 ct26), sl26⟩) (c26 : PySem.W.codeIn K cd26 "law" = true) (k26 : PySem.W.keepIn K (.ref f26) = true)
    (a27 : PySem.W.findIn K (.ref C) "__init__" = some (some (.ref f27))) (i27 : PySem.W.isFn K (.ref f27) = true)
    (l27 : K.lookup f27 = some ⟨oc27, od27, .func (PySem.W.fnOf "__init__" "Arc.__init__" (defArgs s_Arc___init__) (defBody s_Arc___init__) (defScope s_Arc___init__) .none kV27 dc27 pm27 an27 cd27 ct27), sl27⟩) (c27 : PySem.W.codeIn K cd27 "Arc.__init__" = true) (k27 : PySem.W.keepIn K (.ref f27) = true)
    (a28 : PySem.W.findIn K (.ref C) "beyond" = some (some (.ref f28))) (i28 : PySem.W.isFn K (.ref f28) = true)
    (l28 : K.lookup f28 = some ⟨oc28, od28, .func (PySem.W.fnOf "beyond" "Arc.beyond" (defArgs s_Arc_beyond) (defBody s_Arc_beyond) (defScope s_Arc_beyond) .none kV28 dc28 pm28 an28 cd28 ct28), sl28⟩) (c28 : PySem.W.codeIn K cd28 "Arc.beyond" = true) (k28 : PySem.W.keepIn K (.ref f28) = true)
    (a29 : PySem.W.findIn K (.ref C) "sides" = some (some (.ref f29))) (i29 : PySem.W.isFn K (.ref f29) = true)
    (l29 : K.lookup f29 = some ⟨oc29, od29, .func (PySem.W.fnOf "sides" "Arc.sides" (defArgs s_Arc_sides) (defBody s_Arc_sides) (defScope s_Arc_sides) .none kV29 dc29 pm29 an29 cd29 ct29), sl29⟩) (c29 : PySem.W.codeIn K cd29 "Arc.sides" = true) (k29 : PySem.W.keepIn K (.ref f29) = true)
    (a30 : PySem.W.findIn K (.ref C) "open_steps" = some (some (.ref f30))) (i30 : PySem.W.isFn K (.ref f30) = true)
    (l30 : K.lookup f30 = some ⟨oc30, od30, .func (PySem.W.fnOf "open_steps" "Arc.open_steps" (defArgs s_Arc_open_steps) (defBody s_Arc_open_steps) (defScope s_Arc_open_steps) .none kV30 dc30 pm30 an30 cd30 ct30), sl30⟩) (c30 : PySem.W.codeIn K cd30 "Arc.open_steps" = true) (k30 : PySem.W.keepIn K (.ref f30) = true)
    (a31 : PySem.W.findIn K (.ref C) "meets" = some (some (.ref f31))) (i31 : PySem.W.isFn K (.ref f31) = true)
    (l31 : K.lookup f31 = some ⟨oc31, od31, .func (PySem.W.fnOf "meets" "Arc.meets" (defArgs s_Arc_meets) (defBody s_Arc_meets) (defScope s_Arc_meets) .none kV31 dc31 pm31 an31 cd31 ct31), sl31⟩) (c31 : PySem.W.codeIn K cd31 "Arc.meets" = true) (k31 : PySem.W.keepIn K (.ref f31) = true)
    (a32 : PySem.W.findIn K (.ref C) "cross" = some (some (.ref f32))) (i32 : PySem.W.isFn K (.ref f32) = true)
    (l32 : K.lookup f32 = some ⟨oc32, od32, .func (PySem.W.fnOf "cross" "Arc.cross" (defArgs s_Arc_cross) (defBody s_Arc_cross) (defScope s_Arc_cross) .none kV32 dc32 pm32 an32 cd32 ct32), sl32⟩) (c32 : PySem.W.codeIn K cd32 "Arc.cross" = true) (k32 : PySem.W.keepIn K (.ref f32) = true)
    (a33 : PySem.W.findIn K (.ref C) "joined" = some (some (.ref f33))) (i33 : PySem.W.isFn K (.ref f33) = true)
    (l33 : K.lookup f33 = some ⟨oc33, od33, .func (PySem.W.fnOf "joined" "Arc.joined" (defArgs s_Arc_joined) (defBody s_Arc_joined) (defScope s_Arc_joined) .none kV33 dc33 pm33 an33 cd33 ct33), sl33⟩) (c33 : PySem.W.codeIn K cd33 "Arc.joined" = true) (k33 : PySem.W.keepIn K (.ref f33) = true)
    (x1_NoDrawing : PySem.W.nsIn K mainGlobals "NoDrawing" = some (some (.ref e_NoDrawing))) (x2_NoDrawing : PySem.W.excIn K e_NoDrawing [.type "ValueError", .type "Exception", .type "BaseException", .type "object"] "ValueError.__new__" = true) (x3_NoDrawing : PySem.W.keepIn K (.ref e_NoDrawing) = true) (x4_NoDrawing : PySem.W.subIn K (.ref e_NoDrawing) (.type "BaseException") = some true) (x5_NoDrawing : PySem.W.typeIn K (.ref e_NoDrawing) = some (.type "type"))
    (x1_NotFalling : PySem.W.nsIn K mainGlobals "NotFalling" = some (some (.ref e_NotFalling))) (x2_NotFalling : PySem.W.excIn K e_NotFalling [.type "ValueError", .type "Exception", .type "BaseException", .type "object"] "ValueError.__new__" = true) (x3_NotFalling : PySem.W.keepIn K (.ref e_NotFalling) = true) (x4_NotFalling : PySem.W.subIn K (.ref e_NotFalling) (.type "BaseException") = some true) (x5_NotFalling : PySem.W.typeIn K (.ref e_NotFalling) = some (.type "type"))
    (x1_RopeError : PySem.W.nsIn K mainGlobals "RopeError" = some (some (.ref e_RopeError))) (x2_RopeError : PySem.W.excIn K e_RopeError [.type "ValueError", .type "Exception", .type "BaseException", .type "object"] "ValueError.__new__" = true) (x3_RopeError : PySem.W.keepIn K (.ref e_RopeError) = true) (x4_RopeError : PySem.W.subIn K (.ref e_RopeError) (.type "BaseException") = some true) (x5_RopeError : PySem.W.typeIn K (.ref e_RopeError) = some (.type "type"))
    (y1_NotFalling_RopeError : PySem.W.isClsIn K e_RopeError = true) (y2_NotFalling_RopeError : PySem.W.subIn K (.ref e_NotFalling) (.ref e_RopeError) = some true)
    (w1_NotFalling : PySem.W.findIn K (.ref e_NotFalling) "__getattribute__" = some (some (.builtin "BaseException.__getattribute__"))) (w2_NotFalling : PySem.W.findIn K (.ref e_NotFalling) "__getattr__" = some none) (w3_NotFalling : PySem.W.hasDictIn K e_NotFalling = true) (w4_NotFalling : PySem.W.findIn K (.ref e_NotFalling) "__class__" = some (some (.builtin "object.__class__"))) (w5_NotFalling : PySem.W.mroIn K e_NotFalling (.type "object") = some true)
    (vv1 : PySem.W.specialIn K (.builtin "object.__class__") "__get__" = some (some (.builtin "getset_descriptor.__get__"))) (vv2 : PySem.W.takesIn K (.builtin "object.__class__") = some true)
    (kt_NotFalling_NotFalling : PySem.W.kitOne K (.ref e_NotFalling) (.ref e_NotFalling) = some true)
    (kt_NotFalling_ValueError : PySem.W.kitOne K (.ref e_NotFalling) (.type "ValueError") = some true)
    (kt_NotFalling_NoDrawing : PySem.W.kitOne K (.ref e_NotFalling) (.ref e_NoDrawing) = some false)
    (aC : PySem.W.nsIn K mainGlobals "Arc" = some (some (.ref C))) (pg : PySem.W.plainGet K C Str.empty = true) (hd : PySem.W.hasDictIn K C = true) (po : PySem.W.plainOver K C = true) (sa : PySem.W.findIn K (.ref C) "__setattr__" = some (some (.builtin "object.__setattr__"))) (mk : PySem.W.makesIn K C = true) (kc : PySem.W.keepIn K (.ref C) = true)
    (nn_row : PySem.W.findIn K (.ref C) "row" = some none)
    (nn_turns : PySem.W.findIn K (.ref C) "turns" = some none)
    (nn_old : PySem.W.findIn K (.ref C) "old" = some none)
    (cc_MARK : PySem.W.nsIn K mainGlobals "MARK" = some (some (.int 0 tk_MARK)))
    (cc_MOST : PySem.W.nsIn K mainGlobals "MOST" = some (some (.int 40 tk_MOST)))
    (aD_SIGNS : PySem.W.nsIn K mainGlobals "SIGNS" = some (some (.ref D_SIGNS))) (lD_SIGNS : K.lookup D_SIGNS = some ⟨.type "dict", none, .dict es_SIGNS n_SIGNS, #[]⟩) (kD_SIGNS : PySem.W.KeysLit w.params es_SIGNS.toList)
    (vD_SIGNS_0 : PySem.W.nsIn K D_SIGNS "over" = some (some (.int (1) tD_SIGNS_0)))
    (vD_SIGNS_1 : PySem.W.nsIn K D_SIGNS "under" = some (some (.int (-1) tD_SIGNS_1)))
    (z_ValueError : PySem.W.nsIn K mainGlobals "ValueError" = some none)
    (z_abs : PySem.W.nsIn K mainGlobals "abs" = some none)
    (z_bool : PySem.W.nsIn K mainGlobals "bool" = some none)
    (z_dict : PySem.W.nsIn K mainGlobals "dict" = some none)
    (z_enumerate : PySem.W.nsIn K mainGlobals "enumerate" = some none)
    (z_int : PySem.W.nsIn K mainGlobals "int" = some none)
    (z_isinstance : PySem.W.nsIn K mainGlobals "isinstance" = some none)
    (z_len : PySem.W.nsIn K mainGlobals "len" = some none)
    (z_list : PySem.W.nsIn K mainGlobals "list" = some none)
    (z_max : PySem.W.nsIn K mainGlobals "max" = some none)
    (z_range : PySem.W.nsIn K mainGlobals "range" = some none)
    (z_set : PySem.W.nsIn K mainGlobals "set" = some none)
    (z_str : PySem.W.nsIn K mainGlobals "str" = some none)
    (z_tuple : PySem.W.nsIn K mainGlobals "tuple" = some none)
    : ∃ fd : FuncData, (∀ (s : Shared) (v : Value), BindsTo s fd ⟨[v], []⟩ [("_law_script", v)]) ∧ ∀ base : Heap, K.In base → base.Ns mainGlobals mg → FnOk P w K mg base (L2.CX P w) 10 fa fd ["_law_script"] (spT K C [.bor] (fun ns : List Int => [.scr ns]) preLw outLw) := by
  have e := hfa.symm.trans (PySem.W.mg_of X G a26)
  cases e
  have T : Tx mg := ⟨PySem.W.mg_none_of X G z_ValueError, PySem.W.mg_none_of X G z_abs, PySem.W.mg_none_of X G z_bool, PySem.W.mg_none_of X G z_dict, PySem.W.mg_none_of X G z_enumerate, PySem.W.mg_none_of X G z_int, PySem.W.mg_none_of X G z_isinstance, PySem.W.mg_none_of X G z_len, PySem.W.mg_none_of X G z_list, PySem.W.mg_none_of X G z_max, PySem.W.mg_none_of X G z_range, PySem.W.mg_none_of X G z_set, PySem.W.mg_none_of X G z_str, PySem.W.mg_none_of X G z_tuple, ⟨_, PySem.W.mg_of X G cc_MARK⟩, ⟨_, PySem.W.mg_of X G cc_MOST⟩⟩
  have A' : ArcC K C := ⟨⟨pg, hd, po, sa⟩, nn_row, nn_turns, nn_old⟩
  have gA : mg "Arc" = some (.ref C) := PySem.W.mg_of X G aC
  have M : Mk K C f27 := ⟨mk, a27, i27, kc⟩
  have F_is_number := fun_mk (st := s_is_number) l1 c1 k1
  have b_is_number := F_is_number.binds (ps := ["thing"]) fun _ _ _ _ _ _ us hl => match us, hl with | [_], _ => rfl
  have G_is_number := PySem.W.mg_of X G a1
  have q_is_number := k1
  have F_are_passes := fun_mk (st := s_are_passes) l2 c2 k2
  have b_are_passes := F_are_passes.binds (ps := ["passes", "count"]) fun _ _ _ _ _ _ us hl => match us, hl with | [_, _], _ => rfl
  have G_are_passes := PySem.W.mg_of X G a2
  have q_are_passes := k2
  have F_are_turns := fun_mk (st := s_are_turns) l3 c3 k3
  have b_are_turns := F_are_turns.binds (ps := ["turns"]) fun _ _ _ _ _ _ us hl => match us, hl with | [_], _ => rfl
  have G_are_turns := PySem.W.mg_of X G a3
  have q_are_turns := k3
  have F_is_drawing := fun_mk (st := s_is_drawing) l4 c4 k4
  have b_is_drawing := F_is_drawing.binds (ps := ["thing"]) fun _ _ _ _ _ _ us hl => match us, hl with | [_], _ => rfl
  have G_is_drawing := PySem.W.mg_of X G a4
  have q_is_drawing := k4
  have F_need_drawing := fun_mk (st := s_need_drawing) l5 c5 k5
  have b_need_drawing := F_need_drawing.binds (ps := ["thing"]) fun _ _ _ _ _ _ us hl => match us, hl with | [_], _ => rfl
  have G_need_drawing := PySem.W.mg_of X G a5
  have q_need_drawing := k5
  have F_cut_open := fun_mk (st := s_cut_open) l6 c6 k6
  have b_cut_open := F_cut_open.binds (ps := ["drawing", "begin", "end"]) fun _ _ _ _ _ _ us hl => match us, hl with | [_, _, _], _ => rfl
  have G_cut_open := PySem.W.mg_of X G a6
  have q_cut_open := k6
  have F_numbered := fun_mk (st := s_numbered) l7 c7 k7
  have b_numbered := F_numbered.binds (ps := ["row", "turns"]) fun _ _ _ _ _ _ us hl => match us, hl with | [_, _], _ => rfl
  have G_numbered := PySem.W.mg_of X G a7
  have q_numbered := k7
  have F_need_stretch := fun_mk (st := s_need_stretch) l8 c8 k8
  have b_need_stretch := F_need_stretch.binds (ps := ["drawing", "begin", "end", "kind"]) fun _ _ _ _ _ _ us hl => match us, hl with | [_, _, _, _], _ => rfl
  have G_need_stretch := PySem.W.mg_of X G a8
  have q_need_stretch := k8
  have F_laid_on := fun_mk (st := s_laid_on) l9 c9 k9
  have b_laid_on := F_laid_on.binds (ps := ["drawing", "begin", "end", "kind", "way"]) fun _ _ _ _ _ _ us hl => match us, hl with | [_, _, _, _, _], _ => rfl
  have G_laid_on := PySem.W.mg_of X G a9
  have q_laid_on := k9
  have F_closed := fun_mk (st := s_closed) l10 c10 k10
  have b_closed := F_closed.binds (ps := ["drawing", "begin", "end", "kind", "way"]) fun _ _ _ _ _ _ us hl => match us, hl with | [_, _, _, _, _], _ => rfl
  have G_closed := PySem.W.mg_of X G a10
  have q_closed := k10
  have F_lay := fun_mk (st := s_lay) l11 c11 k11
  have b_lay := F_lay.binds (ps := ["drawing", "begin", "end", "kind", "way"]) fun _ _ _ _ _ _ us hl => match us, hl with | [_, _, _, _, _], _ => rfl
  have G_lay := PySem.W.mg_of X G a11
  have q_lay := k11
  have F_firsts := fun_mk (st := s_firsts) l12 c12 k12
  have b_firsts := F_firsts.binds (ps := ["passes"]) fun _ _ _ _ _ _ us hl => match us, hl with | [_], _ => rfl
  have G_firsts := PySem.W.mg_of X G a12
  have q_firsts := k12
  have F_fall_of := fun_mk (st := s_fall_of) l13 c13 k13
  have b_fall_of := F_fall_of.binds (ps := ["drawing"]) fun _ _ _ _ _ _ us hl => match us, hl with | [_], _ => rfl
  have G_fall_of := PySem.W.mg_of X G a13
  have q_fall_of := k13
  have F_fall := fun_mk (st := s_fall) l14 c14 k14
  have b_fall := F_fall.binds (ps := ["drawing"]) fun _ _ _ _ _ _ us hl => match us, hl with | [_], _ => rfl
  have G_fall := PySem.W.mg_of X G a14
  have q_fall := k14
  have F_first_loop := fun_mk (st := s_first_loop) l15 c15 k15
  have b_first_loop := F_first_loop.binds (ps := ["passes"]) fun _ _ _ _ _ _ us hl => match us, hl with | [_], _ => rfl
  have G_first_loop := PySem.W.mg_of X G a15
  have q_first_loop := k15
  have F_undone := fun_mk (st := s_undone) l16 c16 k16
  have b_undone := F_undone.binds (ps := ["drawing"]) fun _ _ _ _ _ _ us hl => match us, hl with | [_], _ => rfl
  have G_undone := PySem.W.mg_of X G a16
  have q_undone := k16
  have F_law_cell_at := fun_mk (st := s_law_cell_at) l17 c17 k17
  have b_law_cell_at := F_law_cell_at.binds (ps := ["_law_script", "_law_k"]) fun _ _ _ _ _ _ us hl => match us, hl with | [_, _], _ => rfl
  have G_law_cell_at := PySem.W.mg_of X G a17
  have q_law_cell_at := k17
  have F_law_stream := fun_mk (st := s_law_stream) l18 c18 k18
  have b_law_stream := F_law_stream.binds (ps := ["_law_cell", "_law_many"]) fun _ _ _ _ _ _ us hl => match us, hl with | [_, _], _ => rfl
  have G_law_stream := PySem.W.mg_of X G a18
  have q_law_stream := k18
  have F_law_numbered := fun_mk (st := s_law_numbered) l19 c19 k19
  have b_law_numbered := F_law_numbered.binds (ps := ["_law_row", "_law_turns"]) fun _ _ _ _ _ _ us hl => match us, hl with | [_, _], _ => rfl
  have G_law_numbered := PySem.W.mg_of X G a19
  have q_law_numbered := k19
  have F_law_cycles := fun_mk (st := s_law_cycles) l20 c20 k20
  have b_law_cycles := F_law_cycles.binds (ps := ["_law_strands", "_law_word"]) fun _ _ _ _ _ _ us hl => match us, hl with | [_, _], _ => rfl
  have G_law_cycles := PySem.W.mg_of X G a20
  have q_law_cycles := k20
  have F_law_braid := fun_mk (st := s_law_braid) l21 c21 k21
  have b_law_braid := F_law_braid.binds (ps := ["_law_x", "_law_most"]) fun _ _ _ _ _ _ us hl => match us, hl with | [_, _], _ => rfl
  have G_law_braid := PySem.W.mg_of X G a21
  have q_law_braid := k21
  have F_law_drawn := fun_mk (st := s_law_drawn) l22 c22 k22
  have b_law_drawn := F_law_drawn.binds (ps := ["_law_x", "_law_most"]) fun _ _ _ _ _ _ us hl => match us, hl with | [_, _], _ => rfl
  have G_law_drawn := PySem.W.mg_of X G a22
  have q_law_drawn := k22
  have F_law_falling := fun_mk (st := s_law_falling) l23 c23 k23
  have b_law_falling := F_law_falling.binds (ps := ["_law_drawing", "_law_sign"]) fun _ _ _ _ _ _ us hl => match us, hl with | [_, _], _ => rfl
  have G_law_falling := PySem.W.mg_of X G a23
  have q_law_falling := k23
  have F_law_fall := fun_mk (st := s_law_fall) l24 c24 k24
  have b_law_fall := F_law_fall.binds (ps := ["_law_passes"]) fun _ _ _ _ _ _ us hl => match us, hl with | [_], _ => rfl
  have G_law_fall := PySem.W.mg_of X G a24
  have q_law_fall := k24
  have F_law_refused := fun_mk (st := s_law_refused) l25 c25 k25
  have b_law_refused := F_law_refused.binds (ps := ["_law_drawing"]) fun _ _ _ _ _ _ us hl => match us, hl with | [_], _ => rfl
  have G_law_refused := PySem.W.mg_of X G a25
  have q_law_refused := k25
  have F_law := fun_mk (st := s_law) l26 c26 k26
  have b_law := F_law.binds (ps := ["_law_script"]) fun _ _ _ _ _ _ us hl => match us, hl with | [_], _ => rfl
  have G_law := PySem.W.mg_of X G a26
  have q_law := k26
  have F_Arc___init__ := fun_mk (st := s_Arc___init__) l27 c27 k27
  have b_Arc___init__ := F_Arc___init__.binds (ps := ["self", "row", "turns"]) fun _ _ _ _ _ _ us hl => match us, hl with | [_, _, _], _ => rfl
  have m_Arc___init__ : Meth K C "__init__" f27 := ⟨a27, i27, k27⟩
  have q_Arc___init__ := k27
  have F_Arc_beyond := fun_mk (st := s_Arc_beyond) l28 c28 k28
  have b_Arc_beyond := F_Arc_beyond.binds (ps := ["self", "places", "gap", "way"]) fun _ _ _ _ _ _ us hl => match us, hl with | [_, _, _, _], _ => rfl
  have m_Arc_beyond : Meth K C "beyond" f28 := ⟨a28, i28, k28⟩
  have q_Arc_beyond := k28
  have F_Arc_sides := fun_mk (st := s_Arc_sides) l29 c29 k29
  have b_Arc_sides := F_Arc_sides.binds (ps := ["self"]) fun _ _ _ _ _ _ us hl => match us, hl with | [_], _ => rfl
  have m_Arc_sides : Meth K C "sides" f29 := ⟨a29, i29, k29⟩
  have q_Arc_sides := k29
  have F_Arc_open_steps := fun_mk (st := s_Arc_open_steps) l30 c30 k30
  have b_Arc_open_steps := F_Arc_open_steps.binds (ps := ["self"]) fun _ _ _ _ _ _ us hl => match us, hl with | [_], _ => rfl
  have m_Arc_open_steps : Meth K C "open_steps" f30 := ⟨a30, i30, k30⟩
  have q_Arc_open_steps := k30
  have F_Arc_meets := fun_mk (st := s_Arc_meets) l31 c31 k31
  have b_Arc_meets := F_Arc_meets.binds (ps := ["self"]) fun _ _ _ _ _ _ us hl => match us, hl with | [_], _ => rfl
  have m_Arc_meets : Meth K C "meets" f31 := ⟨a31, i31, k31⟩
  have q_Arc_meets := k31
  have F_Arc_cross := fun_mk (st := s_Arc_cross) l32 c32 k32
  have b_Arc_cross := F_Arc_cross.binds (ps := ["self", "gap", "way", "sign"]) fun _ _ _ _ _ _ us hl => match us, hl with | [_, _, _, _], _ => rfl
  have m_Arc_cross : Meth K C "cross" f32 := ⟨a32, i32, k32⟩
  have q_Arc_cross := k32
  have F_Arc_joined := fun_mk (st := s_Arc_joined) l33 c33 k33
  have b_Arc_joined := F_Arc_joined.binds (ps := ["self"]) fun _ _ _ _ _ _ us hl => match us, hl with | [_], _ => rfl
  have m_Arc_joined : Meth K C "joined" f33 := ⟨a33, i33, k33⟩
  have q_Arc_joined := k33
  have xc_NoDrawing : Xc K mg "NoDrawing" e_NoDrawing := ⟨x2_NoDrawing, PySem.W.mg_of X G x1_NoDrawing, x3_NoDrawing, x4_NoDrawing, x5_NoDrawing⟩
  have xc_NotFalling : Xc K mg "NotFalling" e_NotFalling := ⟨x2_NotFalling, PySem.W.mg_of X G x1_NotFalling, x3_NotFalling, x4_NotFalling, x5_NotFalling⟩
  have xc_RopeError : Xc K mg "RopeError" e_RopeError := ⟨x2_RopeError, PySem.W.mg_of X G x1_RopeError, x3_RopeError, x4_RopeError, x5_RopeError⟩
  have xx_NotFalling_RopeError : PySem.W.exmOne K (.ref e_NotFalling) (.ref e_RopeError) = some true := exm_of x4_RopeError y1_NotFalling_RopeError x5_RopeError y2_NotFalling_RopeError
  have ec_NotFalling : ExcC K e_NotFalling := ⟨w1_NotFalling, w2_NotFalling, x4_NotFalling, w3_NotFalling, w4_NotFalling, vv1, vv2, w5_NotFalling⟩
  have SG : Sg w K mg D_SIGNS := ⟨PySem.W.mg_of X G aD_SIGNS, ⟨es_SIGNS, n_SIGNS, _, lD_SIGNS, kD_SIGNS, vD_SIGNS_0, ⟨_, rfl⟩⟩, ⟨es_SIGNS, n_SIGNS, _, lD_SIGNS, kD_SIGNS, vD_SIGNS_1, ⟨_, rfl⟩⟩⟩
  refine ⟨PySem.W.fnOf "law" "law" (defArgs s_law) (defBody s_law) (defScope s_law) .none kV26 dc26 pm26 an26 cd26 ct26, fun s v => .of_eq rfl, fun base _ _ => ?_⟩

  have K_init := ok_init (P := P) (w := w) (base := base) (k := 0) T A' F_Arc___init__
  have K_beyond := ok_beyond (P := P) (w := w) (base := base) (k := 0) T A' F_Arc_beyond
  have K_sides := ok_sides (P := P) (w := w) (base := base) (k := 1) T A' F_Arc_sides K_beyond m_Arc_beyond b_Arc_beyond (by decide)
  have K_numT := ok_numT (P := P) (w := w) (base := base) (C := C) (k := 0) T F_numbered
  have K_isnum := ok_isnum (P := P) (w := w) (base := base) (C := C) (k := 0) T F_is_number
  have K_passes := ok_passes (P := P) (w := w) (base := base) (C := C) (k := 1) T F_are_passes K_isnum G_is_number q_is_number b_is_number (by decide)
  have K_turns := ok_turns (P := P) (w := w) (base := base) (C := C) (k := 1) T F_are_turns K_isnum G_is_number q_is_number b_is_number (by decide)
  have K_cut := ok_cut (P := P) (w := w) (base := base) (C := C) (k := 2) T M gA F_cut_open K_init b_Arc___init__ (by decide)
  have R : DrF P w K mg base C 3 := ⟨⟨_, _, _, K_passes, G_are_passes, q_are_passes, b_are_passes, by decide⟩, ⟨_, _, _, K_turns, G_are_turns, q_are_turns, b_are_turns, by decide⟩, ⟨_, _, _, K_cut, G_cut_open, q_cut_open, b_cut_open, by decide⟩, ⟨_, _, _, K_sides, m_Arc_sides, b_Arc_sides, by decide⟩⟩
  have K_drawing := ok_drawing (P := P) (w := w) (base := base) T A' F_is_drawing R
  have K_need := ok_need (P := P) (w := w) (base := base) (C := C) (k := 4) T F_need_drawing xc_NoDrawing K_drawing G_is_drawing q_is_drawing b_is_drawing (by decide)
  have K_cell := ok_cell (P := P) (w := w) (base := base) (C := C) (k := 0) T F_law_cell_at
  have K_stream := ok_stream (P := P) (w := w) (base := base) (C := C) (k := 0) T F_law_stream
  have K_lnumL := ok_lnumL (P := P) (w := w) (base := base) (C := C) (k := 0) T F_law_numbered
  have K_cycles := ok_cycles (P := P) (w := w) (base := base) (C := C) (k := 0) T F_law_cycles
  have K_braid := ok_braid (P := P) (w := w) (base := base) (C := C) (k := 1) T F_law_braid K_stream G_law_stream q_law_stream b_law_stream (by decide) K_cycles G_law_cycles q_law_cycles b_law_cycles (by decide)
  have K_drawn := ok_drawn (P := P) (w := w) (base := base) (C := C) (k := 2) T F_law_drawn K_braid G_law_braid q_law_braid b_law_braid (by decide) K_lnumL G_law_numbered q_law_numbered b_law_numbered (by decide)
  have K_open := ok_opens (P := P) (w := w) (base := base) (k := 2) T A' F_Arc_open_steps K_sides m_Arc_sides b_Arc_sides (by decide)
  have K_meets := ok_meets (P := P) (w := w) (base := base) (k := 2) T A' F_Arc_meets K_sides m_Arc_sides b_Arc_sides (by decide)
  have K_cross := ok_cross (P := P) (w := w) (base := base) (k := 0) T A' F_Arc_cross
  have K_nst := ok_nstretch (P := P) (w := w) (base := base) (C := C) (k := 5) T SG F_need_stretch K_need G_need_drawing q_need_drawing b_need_drawing (by decide) K_isnum G_is_number q_is_number b_is_number (by decide)
  have K_laid := fun lt : Bool => ok_laid lt (P := P) (w := w) (base := base) (k := 3) T A' SG F_laid_on K_cut G_cut_open q_cut_open b_cut_open (by decide) K_open m_Arc_open_steps b_Arc_open_steps (by decide) K_cross m_Arc_cross b_Arc_cross (by decide)
  have K_numD := ok_numD (P := P) (w := w) (base := base) (C := C) (k := 0) T F_numbered
  have K_joined := ok_joined (P := P) (w := w) (base := base) (k := 1) T A' F_Arc_joined K_numD G_numbered q_numbered b_numbered (by decide)
  have K_closed := fun lt : Bool => ok_closed lt (P := P) (w := w) (base := base) (k := 4) T A' F_closed (K_laid lt) G_laid_on q_laid_on b_laid_on (by decide) K_meets m_Arc_meets b_Arc_meets (by decide)
  have K_lay := fun lt : Bool => ok_lay lt (P := P) (w := w) (base := base) (k := 6) T A' F_lay K_nst G_need_stretch q_need_stretch b_need_stretch (by decide) (K_closed lt) G_closed q_closed b_closed (by decide) K_joined m_Arc_joined b_Arc_joined (by decide)
  have K_firsts := ok_firsts (P := P) (w := w) (base := base) (C := C) (k := 0) T F_firsts
  have K_fallof := ok_fallof (P := P) (w := w) (base := base) (C := C) (k := 1) T F_fall_of K_firsts G_firsts q_firsts b_firsts (by decide)
  have K_fall := ok_fall (P := P) (w := w) (base := base) (C := C) (k := 5) T F_fall K_need G_need_drawing q_need_drawing b_need_drawing (by decide) K_fallof G_fall_of q_fall_of b_fall_of (by decide)
  have K_floop := ok_floop (P := P) (w := w) (base := base) (C := C) (k := 0) T F_first_loop
  have K_undone := ok_undone (P := P) (w := w) (base := base) (C := C) (k := 7) T F_undone xc_NotFalling K_need G_need_drawing q_need_drawing b_need_drawing (by decide) K_fallof G_fall_of q_fall_of b_fall_of (by decide) K_floop G_first_loop q_first_loop b_first_loop (by decide) (K_lay false) G_lay q_lay b_lay (by decide)
  have K_falling := ok_falling (P := P) (w := w) (base := base) (C := C) (k := 0) T F_law_falling
  have K_lfall := ok_lfall (P := P) (w := w) (base := base) (C := C) (k := 0) T F_law_fall
  have K_refusedN := ok_refusedN (P := P) (w := w) (base := base) (C := C) (k := 8) T F_law_refused xc_RopeError xc_NotFalling xc_NoDrawing ec_NotFalling xx_NotFalling_RopeError kt_NotFalling_NotFalling kt_NotFalling_ValueError kt_NotFalling_NoDrawing K_undone G_undone q_undone b_undone (by decide)
  exact ok_law (k := 9) T F_law ⟨⟨_, _, _, K_cell, G_law_cell_at, q_law_cell_at, b_law_cell_at, by decide⟩, ⟨_, _, _, K_stream, G_law_stream, q_law_stream, b_law_stream, by decide⟩, ⟨_, _, _, K_drawn, G_law_drawn, q_law_drawn, b_law_drawn, by decide⟩, ⟨_, _, _, K_falling, G_law_falling, q_law_falling, b_law_falling, by decide⟩, ⟨_, _, _, K_lfall, G_law_fall, q_law_fall, b_law_fall, by decide⟩, ⟨_, _, _, K_refusedN, G_law_refused, q_law_refused, b_law_refused, by decide⟩, ⟨_, _, _, K_fall, G_fall, q_fall, b_fall, by decide⟩, ⟨_, _, _, K_undone, G_undone, q_undone, b_undone, by decide⟩⟩
end KK
open PySem PySem.W PyProof.Rows in
set_option maxRecDepth 100000 in
set_option maxHeartbeats 0 in
theorem PySem.Challenge.cw_overunder_k09_what_falls_holds : PySem.Challenge.rw_overunder_k09_what_falls.Holds := by
  w_on; o_law; k_head; (case hw => w_witness2)
  k_fill
  refine KK.walk (l := PySem.Challenge.rw_overunder_k09_what_falls) rfl rfl (fun w h Y => PySem.W.kIn_of Y) ?F
  case F =>
    intro w mg fa h KX G hmg
    refine' Exists.intro _ (KK.all_mk KX G hmg ?a1 ?l1 ?c1 ?k1 ?a2 ?l2 ?c2 ?k2 ?a3 ?l3 ?c3 ?k3 ?a4 ?l4 ?c4 ?k4 ?a5 ?l5 ?c5 ?k5 ?a6 ?l6 ?c6 ?k6 ?a7 ?l7 ?c7 ?k7 ?a8 ?l8 ?c8 ?k8 ?a9 ?l9 ?c9 ?k9 ?a10 ?l10 ?c10 ?k10 ?a11 ?l11 ?c11 ?k11 ?a12 ?l12 ?c12 ?k12 ?a13 ?l13 ?c13 ?k13 ?a14 ?l14 ?c14 ?k14 ?a15 ?l15 ?c15 ?k15 ?a16 ?l16 ?c16 ?k16 ?a17 ?l17 ?c17 ?k17 ?a18 ?l18 ?c18 ?k18 ?a19 ?l19 ?c19 ?k19 ?a20 ?l20 ?c20 ?k20 ?a21 ?l21 ?c21 ?k21 ?a22 ?l22 ?c22 ?k22 ?a23 ?l23 ?c23 ?k23 ?a24 ?l24 ?c24 ?k24 ?a25 ?l25 ?c25 ?k25 ?a26 ?l26 ?c26 ?k26 ?a27 ?i27 ?l27 ?c27 ?k27 ?a28 ?i28 ?l28 ?c28 ?k28 ?a29 ?i29 ?l29 ?c29 ?k29 ?a30 ?i30 ?l30 ?c30 ?k30 ?a31 ?i31 ?l31 ?c31 ?k31 ?a32 ?i32 ?l32 ?c32 ?k32 ?a33 ?i33 ?l33 ?c33 ?k33 ?x1_NoDrawing ?x2_NoDrawing ?x3_NoDrawing ?x4_NoDrawing ?x5_NoDrawing ?x1_NotFalling ?x2_NotFalling ?x3_NotFalling ?x4_NotFalling ?x5_NotFalling ?x1_RopeError ?x2_RopeError ?x3_RopeError ?x4_RopeError ?x5_RopeError ?y1_NotFalling_RopeError ?y2_NotFalling_RopeError ?w1_NotFalling ?w2_NotFalling ?w3_NotFalling ?w4_NotFalling ?w5_NotFalling ?vv1 ?vv2 ?kt_NotFalling_NotFalling ?kt_NotFalling_ValueError ?kt_NotFalling_NoDrawing ?aC ?pg ?hd ?po ?sa ?mk ?kc ?nn_row ?nn_turns ?nn_old ?cc_MARK ?cc_MOST ?aD_SIGNS ?lD_SIGNS ?kD_SIGNS ?vD_SIGNS_0 ?vD_SIGNS_1 ?z_ValueError ?z_abs ?z_bool ?z_dict ?z_enumerate ?z_int ?z_isinstance ?z_len ?z_list ?z_max ?z_range ?z_set ?z_str ?z_tuple)
    (case aC => k_is)
    (case pg => k_is)
    (case hd => k_is)
    (case po => k_is)
    (case sa => k_is)
    (case mk => k_is)
    (case kc => k_is)
    (case a1 => k_is)
    (case l1 => k_is)
    (case c1 => k_is)
    (case k1 => k_is)
    (case a2 => k_is)
    (case l2 => k_is)
    (case c2 => k_is)
    (case k2 => k_is)
    (case a3 => k_is)
    (case l3 => k_is)
    (case c3 => k_is)
    (case k3 => k_is)
    (case a4 => k_is)
    (case l4 => k_is)
    (case c4 => k_is)
    (case k4 => k_is)
    (case a5 => k_is)
    (case l5 => k_is)
    (case c5 => k_is)
    (case k5 => k_is)
    (case a6 => k_is)
    (case l6 => k_is)
    (case c6 => k_is)
    (case k6 => k_is)
    (case a7 => k_is)
    (case l7 => k_is)
    (case c7 => k_is)
    (case k7 => k_is)
    (case a8 => k_is)
    (case l8 => k_is)
    (case c8 => k_is)
    (case k8 => k_is)
    (case a9 => k_is)
    (case l9 => k_is)
    (case c9 => k_is)
    (case k9 => k_is)
    (case a10 => k_is)
    (case l10 => k_is)
    (case c10 => k_is)
    (case k10 => k_is)
    (case a11 => k_is)
    (case l11 => k_is)
    (case c11 => k_is)
    (case k11 => k_is)
    (case a12 => k_is)
    (case l12 => k_is)
    (case c12 => k_is)
    (case k12 => k_is)
    (case a13 => k_is)
    (case l13 => k_is)
    (case c13 => k_is)
    (case k13 => k_is)
    (case a14 => k_is)
    (case l14 => k_is)
    (case c14 => k_is)
    (case k14 => k_is)
    (case a15 => k_is)
    (case l15 => k_is)
    (case c15 => k_is)
    (case k15 => k_is)
    (case a16 => k_is)
    (case l16 => k_is)
    (case c16 => k_is)
    (case k16 => k_is)
    (case a17 => k_is)
    (case l17 => k_is)
    (case c17 => k_is)
    (case k17 => k_is)
    (case a18 => k_is)
    (case l18 => k_is)
    (case c18 => k_is)
    (case k18 => k_is)
    (case a19 => k_is)
    (case l19 => k_is)
    (case c19 => k_is)
    (case k19 => k_is)
    (case a20 => k_is)
    (case l20 => k_is)
    (case c20 => k_is)
    (case k20 => k_is)
    (case a21 => k_is)
    (case l21 => k_is)
    (case c21 => k_is)
    (case k21 => k_is)
    (case a22 => k_is)
    (case l22 => k_is)
    (case c22 => k_is)
    (case k22 => k_is)
    (case a23 => k_is)
    (case l23 => k_is)
    (case c23 => k_is)
    (case k23 => k_is)
    (case a24 => k_is)
    (case l24 => k_is)
    (case c24 => k_is)
    (case k24 => k_is)
    (case a25 => k_is)
    (case l25 => k_is)
    (case c25 => k_is)
    (case k25 => k_is)
    (case a26 => k_is)
    (case l26 => k_is)
    (case c26 => k_is)
    (case k26 => k_is)
    (case a27 => k_is)
    (case i27 => k_is)
    (case l27 => k_is)
    (case c27 => k_is)
    (case k27 => k_is)
    (case a28 => k_is)
    (case i28 => k_is)
    (case l28 => k_is)
    (case c28 => k_is)
    (case k28 => k_is)
    (case a29 => k_is)
    (case i29 => k_is)
    (case l29 => k_is)
    (case c29 => k_is)
    (case k29 => k_is)
    (case a30 => k_is)
    (case i30 => k_is)
    (case l30 => k_is)
    (case c30 => k_is)
    (case k30 => k_is)
    (case a31 => k_is)
    (case i31 => k_is)
    (case l31 => k_is)
    (case c31 => k_is)
    (case k31 => k_is)
    (case a32 => k_is)
    (case i32 => k_is)
    (case l32 => k_is)
    (case c32 => k_is)
    (case k32 => k_is)
    (case a33 => k_is)
    (case i33 => k_is)
    (case l33 => k_is)
    (case c33 => k_is)
    (case k33 => k_is)
    (case x1_NoDrawing => k_is)
    (case x2_NoDrawing => k_exc)
    (case x3_NoDrawing => k_is)
    (case x4_NoDrawing => k_is)
    (case x5_NoDrawing => k_is)
    (case x1_NotFalling => k_is)
    (case x2_NotFalling => k_exc)
    (case x3_NotFalling => k_is)
    (case x4_NotFalling => k_is)
    (case x5_NotFalling => k_is)
    (case x1_RopeError => k_is)
    (case x2_RopeError => k_exc)
    (case x3_RopeError => k_is)
    (case x4_RopeError => k_is)
    (case x5_RopeError => k_is)
    (case y1_NotFalling_RopeError => k_is)
    (case y2_NotFalling_RopeError => first | rfl | k_is)
    (case w1_NotFalling => k_is)
    (case w2_NotFalling => k_is)
    (case w3_NotFalling => k_is)
    (case w4_NotFalling => k_is)
    (case w5_NotFalling => k_is)
    (case vv1 => k_is)
    (case vv2 => k_is)
    (case kt_NotFalling_NotFalling => first | rfl | k_is)
    (case kt_NotFalling_ValueError => first | rfl | k_is)
    (case kt_NotFalling_NoDrawing => first | rfl | k_is)
    (case nn_row => k_is)
    (case nn_turns => k_is)
    (case nn_old => k_is)
    (case cc_MARK => k_is)
    (case cc_MOST => k_is)
    (case aD_SIGNS => k_is)
    (case lD_SIGNS => k_is)
    (case kD_SIGNS => exact ⟨⟨_, _, rfl, rfl⟩, ⟨_, _, rfl, rfl⟩, trivial⟩)
    (case vD_SIGNS_0 => k_is)
    (case vD_SIGNS_1 => k_is)
    (case z_ValueError => k_is)
    (case z_abs => k_is)
    (case z_bool => k_is)
    (case z_dict => k_is)
    (case z_enumerate => k_is)
    (case z_int => k_is)
    (case z_isinstance => k_is)
    (case z_len => k_is)
    (case z_list => k_is)
    (case z_max => k_is)
    (case z_range => k_is)
    (case z_set => k_is)
    (case z_str => k_is)
    (case z_tuple => k_is)
