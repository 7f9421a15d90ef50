import PyProof.Rows.All
import Wide.All
import OpenK.AllK
import Wide.FinOn
import HandS.ForMost
import HandS.More
import HandS.Walk
import HandS.SortInts
import HandS.IsInst
import KE.KDictSum
import PySem.Str
import HandS.Replace
import KE.DataEq
import PySem.Challenge.RW_findcourt_k06_pieces
set_option Elab.async false
set_option linter.all false
set_option maxRecDepth 100000
set_option maxHeartbeats 4000000
/-! Rules that the layer lacks here: a new dict locked behind its making; enumerate over a text; sorted of a dict's keys, any number of them. -/

namespace KP
open PySem
/-- the order of texts, the plain sort by it -/
def leS (a b : Str) : Bool := !decide (b.cps.toList < a.cps.toList)
def sortS (ks : List Str) : List Str := ks.mergeSort leS
theorem str_ext {a b : Str} (h : a.cps.toList = b.cps.toList) : a = b := by
  cases a; cases b
  congr 1
  exact Array.toList_inj.mp h
theorem leS_iff {a b : Str} : leS a b = true ↔ a.cps.toList ≤ b.cps.toList := by
  unfold leS
  simp [List.not_lt]
theorem sortS_perm (ks : List Str) : (sortS ks).Perm ks := List.mergeSort_perm ks leS
theorem sortS_pair (ks : List Str) : (sortS ks).Pairwise fun a b => leS a b = true :=
  List.pairwise_mergeSort (le := leS) (fun a b c h1 h2 => leS_iff.mpr (List.le_trans (leS_iff.mp h1) (leS_iff.mp h2))) (fun a b => by
    rcases List.le_total a.cps.toList b.cps.toList with h | h
    · rw [leS_iff.mpr h]; rfl
    · rw [leS_iff.mpr h]; simp) ks
theorem sortS_unique {ks ys : List Str} (hp : ys.Perm ks) (hs : ys.Pairwise fun a b => leS a b = true) : ys = sortS ks :=
  List.Perm.eq_of_pairwise (fun a b _ _ h1 h2 => str_ext (List.le_antisymm (leS_iff.mp h1) (leS_iff.mp h2))) hs (sortS_pair ks) (hp.trans (sortS_perm ks).symm)
theorem ints_unique {ks ys : List Int} (hk : ks.Pairwise (· < ·)) (hp : ys.Perm ks) (hs : ys.Pairwise (· ≤ ·)) : ys = ks :=
  List.Perm.eq_of_pairwise (fun a b _ _ h1 h2 => Int.le_antisymm h1 h2) hs (hk.imp fun h => Int.le_of_lt h) hp
end KP

namespace SrtO
open PySem PyProof.Rows Srt
section
variable {prog : Program} {w : World} {A : Around} {E : Value → Shared → Prop} {s : Shared}
def svK : Value → List Nat
  | .str x _ => x.cps.toList
  | _ => []
def ltSvK (v u : Value) : Bool := decide (svK v < svK u)
theorem swo_strK : Swo ltSvK := by
  refine ⟨fun x y h => ?_, fun x y z h1 h2 => ?_⟩
  · have a := of_decide_eq_true (p := svK x < svK y) h
    exact decide_eq_false (p := svK y < svK x) fun b => List.lt_irrefl _ (List.lt_trans a b)
  · have a := of_decide_eq_false (p := svK y < svK x) h1
    have b := of_decide_eq_false (p := svK z < svK y) h2
    exact decide_eq_false (p := svK z < svK x) (List.not_lt.mpr (List.le_trans (List.not_lt.mp a) (List.not_lt.mp b)))
theorem strs_memK : ∀ {vs : List Value} {ns : List PySem.Str}, StrsAre vs ns → ∀ v ∈ vs, ∃ i t, v = Value.str i t
  | _, _, .nil, v, h => absurd h (by simp)
  | _, _, .cons n t r, v, h => by
    rcases List.mem_cons.mp h with e | h
    · exact ⟨n, t, e⟩
    · exact strs_memK r v h
theorem strs_svK : ∀ {vs : List Value}, (∀ v ∈ vs, ∃ i t, v = Value.str i t) → StrsAre vs (vs.map fun v => (⟨(svK v).toArray⟩ : PySem.Str))
  | [], _ => .nil
  | v :: vs, h => by
    obtain ⟨i, t, e⟩ := h v List.mem_cons_self
    subst e
    have q := StrsAre.cons i t (strs_svK fun u hu => h u (List.mem_cons_of_mem _ hu))
    simpa [svK] using q
theorem sv_strsK : ∀ {vs : List Value} {ns : List PySem.Str}, StrsAre vs ns → vs.map (fun v => (⟨(svK v).toArray⟩ : PySem.Str)) = ns
  | _, _, .nil => rfl
  | _, _, .cons n t r => by
    have q := sv_strsK r
    simp only [List.map_cons, q]
    simp [svK]
theorem str_cmpK {vs : List Value} {ns : List PySem.Str} (hI : StrsAre vs ns) : Cmp prog w A s oneType' (fun p => p.1 ∈ vs) (lt2 ltSvK) := by
  intro p q hm hm'
  obtain ⟨a, t, e⟩ := strs_memK hI _ hm
  obtain ⟨b, u, e'⟩ := strs_memK hI _ hm'
  show wpAny (model prog w) A (keyLt' oneType' p.1 q.1) (fun r s' => s' = s ∧ r = ltSvK p.1 q.1) (fun _ _ => False) s
  rw [e, e', keyLt'_oneType]
  exact oneLt_str ⟨rfl, rfl⟩
theorem strs_sortableK {a : Addr} {vs : List Value} {ns : List PySem.Str} (hI : StrsAre vs ns) (h2 : 2 ≤ vs.length) : SortableO prog w A s a vs ltSvK := by
  intro h' _
  refine ⟨oneType', fun Q E hq => ?_, str_cmpK hI⟩
  match vs, hI, h2 with
  | v1 :: v2 :: rest, hI, _ =>
    rw [keyKind_strs hI]
    exact wpAny_pure hq
  | [], _, h => exact absurd h (by decide)
  | [v], _, h => exact absurd h (by simp)
theorem strs_outK {vs out : List Value} {ns : List PySem.Str} (hI : StrsAre vs ns) (hs : Srtd ltSvK out) (hb : Stb ltSvK out vs) : StrsAre out (KP.sortS ns) := by
  have h1 := strs_svK fun v hv => strs_memK hI v (hb.perm.mem_iff.mp hv)
  have e : out.map (fun v => (⟨(svK v).toArray⟩ : PySem.Str)) = KP.sortS ns := by
    refine KP.sortS_unique ?_ ?_
    · have q := hb.perm.map (fun v => (⟨(svK v).toArray⟩ : PySem.Str))
      rw [sv_strsK hI] at q
      exact q
    · refine List.pairwise_map.mpr (hs.imp fun {x y} h => ?_)
      have h' := of_decide_eq_false (p := svK y < svK x) h
      unfold KP.leS
      simp only [List.toList_toArray]
      rw [decide_eq_false h']
      rfl
  rw [e] at h1
  exact h1
end
end SrtO

namespace L2
open PySem PySem.Spec PyProof.Rows

/-! ### a thing just made is locked for good -/
def tFrzE (t : TE) : TE := fun σ H Q => t σ H fun x H1 => ∃ d u, x = .ref d ∧ H1 d = some u ∧ Mut (some u) ∧ ∀ od, Q x (upd H1 d (.frz od u))
theorem pe_frz {X : Cx} {e : Expr} {t : TE} (h : PE X e t) : PE X e (tFrzE t) := by
  refine ⟨fun pins s σ H Q I hw => ?_⟩
  refine thn (h.run pins s σ H _ I hw) fun v s1 ⟨x, H1, I1, r, d, u, e, hd, mu, q⟩ => ?_
  obtain ⟨od, I2⟩ := I1.lock hd mu
  exact ⟨x, _, I2, r, q od⟩

/-! ### enumerate(text) -/
def Itse (x : Str) : It :=
  ⟨fun i _ => i < x.cps.size, fun i H v H' => ∃ T c, v = .ref T ∧ H T = none ∧ H' = upd H T (.tup [.int (i : Nat), .str ⟨#[c]⟩]) ∧ x.cps[i]? = some c, fun i _ => i = x.cps.size⟩
theorem draws_strU {prog : Program} {w : World} {A : Around} (hh : A.handled = none) (it : Addr) (x : Str) (t : Tok) :
    Draws prog w A it [it] x.cps.size (fun i v => ∃ c u, x.cps[i]? = some c ∧ v = .str ⟨#[c]⟩ u) (fun i h => h.IsStrIter it (strIterType x) x t i) := by
  cases ha : x.cps.all (· < 128)
  · have e : strIterType x = "str_iterator" := by simp [strIterType, ha]
    rw [e]; exact Draws.strWide hh it x t
  · have e : strIterType x = "str_ascii_iterator" := by simp [strIterType, ha]
    rw [e]; exact Draws.strAscii hh it x t
theorem turn_enumS {P : Program} {w : World} {K : PySem.W.Frag} {elts : List Expr} {kk : Nat} {tpos : Pos} (x : Str) (t : Tok) (e it : Addr) :
    Turn P w K (.Tuple elts kk tpos) (Itse x) [e, it] e (fun i h => (∃ old, IsEnum h e it ((i : Nat) : Int) old) ∧ h.IsStrIter it (strIterType x) x t i ∧ e ≠ it) where
  mem := by simp
  obj := fun i h st b hb => by
    obtain ⟨⟨old, he⟩, ⟨o, ho, hc, hd⟩, _⟩ := st
    have e' : b = e ∨ b = it := by simpa using hb
    rcases e' with z | z
    · rw [z]; exact ⟨_, he, fun v q => nomatch q⟩
    · rw [z]; exact ⟨o, ho, fun v q => by rw [hd] at q; cases q⟩
  keep := fun i h h' st k => let ⟨⟨old, he⟩, ⟨o, ho, r⟩, hne⟩ := st; ⟨⟨old, k e (by simp) _ he⟩, ⟨o, k it (by simp) o ho, r⟩, hne⟩
  item := by
    intro X hP hw hK hc i pins s σ H E I hf st hg
    subst hP hw hK
    obtain ⟨⟨old, he⟩, hit, hne⟩ := st
    have hel : e < s.heap.objs.size := Heap.lt_size he
    have hil : it < s.heap.objs.size := by obtain ⟨_, q, _⟩ := hit; exact Heap.lt_size q
    have D := draws_strU (prog := X.prog) (w := X.w) (A := X.A.in1) (I.ok.hd hc) it x t
    refine wpAny_pyNext_enum_itemD D he hit hg hne (by simpa using hne) fun v h' tk hv ho hit' hT hsz hk => ?_
    obtain ⟨c, u, hcx, rfl⟩ := hv
    refine ⟨_, rfl, wpAny_letOwnedTupleGo_enum (s := { s with heap := h', toks := tk + 1 }) ho fun h'' he' sb => ?_⟩
    have hT2 : h''.get? s.heap.objs.size = some { cls := .type "tuple", data := .seq #[.int i tk, .str ⟨#[c]⟩ u] } := (sb.2 _ (Nat.ne_of_gt hel)).trans hT
    have new : ObjOk X.prog X.w (upd H s.heap.objs.size (.tup [.int (i : Nat), .str ⟨#[c]⟩])) h'' s.heap.objs.size (.tup [.int (i : Nat), .str ⟨#[c]⟩]) :=
      ⟨by show 2 ≤ sizeLine; decide, [.int i tk, .str ⟨#[c]⟩ u], .cons ⟨_, rfl⟩ (.cons ⟨_, rfl⟩ .nil), ⟨_, hT2, rfl, _, rfl⟩⟩
    have I1 : Inv X pins σ (upd H s.heap.objs.size (.tup [.int (i : Nat), .str ⟨#[c]⟩])) { s with heap := h'', toks := tk + 1 } :=
      I.turnedNew (ch := [e, it]) (fun b ob hb q => (sb.2 b (fun z => hb (by simp [z]))).trans (hk b ob (fun z => hb (by simp [z])) (fun z => hb (by simp [z])) q)) hf (Nat.le_refl _) new
    refine ⟨.ref s.heap.objs.size, _, I1, rfl, ⟨_, c, rfl, I.hok.fresh (Nat.le_refl _), rfl, hcx⟩, ⟨⟨.str ⟨#[c]⟩ u, ?_⟩, ?_, hne⟩, fun b hb => ?_⟩
    · have e1 : ((i + 1 : Nat) : Int) = (i : Int) + 1 := by omega
      rw [e1]; exact he'
    · obtain ⟨o, q, r⟩ := hit'
      exact ⟨o, (sb.2 it (Ne.symm hne)).trans q, r⟩
    · have hb' : b < s.heap.objs.size := by
        have e' : b = e ∨ b = it := by simpa using hb
        rcases e' with z | z
        · rw [z]; exact hel
        · rw [z]; exact hil
      rw [upd_ne (Nat.ne_of_lt hb')]
      exact (hf b hb).1
  done := by
    intro X hP hw hK hc i pins s σ H E I hf st hg
    subst hP hw hK
    obtain ⟨⟨old, he⟩, hit, hne⟩ := st
    obtain ⟨f0, f1, f2, f3, f4, f5⟩ := hf it (by simp)
    have D := draws_strU (prog := X.prog) (w := X.w) (A := X.A.in1) (I.ok.hd hc) it x t
    have hi : i = x.cps.size := hg
    subst hi
    exact wpAny_pyNext_enum_endD D he hit fun h' eb => ⟨rfl, I.turned (t' := s.toks) (fun b o hb q => eb b o hb q) f0 f1 f3 f4 f5⟩
  self := fun A i s Q E st h => let ⟨⟨_, he⟩, _⟩ := st; wpAny_pyIter_enum he h
def iEnumS (ta : TA) : TI := fun σ H R => ta σ H fun vs H1 => ∃ x, vs = [.str x] ∧ R (Itse x) H1
theorem pi_enumS {X : Cx} {e : Expr} {ta : TA} {p pos tpos : Pos} {elts : List Expr} {kk : Nat} (hg : Gl X "enumerate") (hm : X.mg "enumerate" = none) (ha : PA X [e] ta) (hs : starEach [e] X.env = [(false, eval e X.env)] := by rfl) :
    PI X (.Tuple elts kk tpos) (.Call (.Name "enumerate" p) [e] [] pos) (iEnumS ta) := by
  refine ⟨fun pins s σ H R I h => ?_⟩
  refine Call_ (ld_blt I hg hm boot_enumerate (PyProof.Rows.callWith_type1 (thn (ha.run pos pins s σ H _ I h) fun us s1 ⟨vs, H1, I1, r1, q1⟩ => ?_) hs rfl))
  obtain ⟨x, ex, q⟩ := q1
  subst ex
  cases r1 with
  | cons r rr =>
    cases rr
    obtain ⟨t, rfl⟩ := r
    refine call_enumerate_str fun h' he hit hsz hk => wpAny_pyIter_enum he ?_
    have I2 : Inv X pins σ H1 { s1 with heap := h' } := I1.kept (t' := s1.toks) hk
    refine ⟨s1.heap.objs.size + 1, [s1.heap.objs.size + 1, s1.heap.objs.size], _, _, H1, rfl, I2, turn_enumS x t (s1.heap.objs.size + 1) s1.heap.objs.size, ⟨⟨.none, he⟩, hit, Nat.succ_ne_self _⟩, fun b hb => ?_, q⟩
    have e' : b = s1.heap.objs.size + 1 ∨ b = s1.heap.objs.size := by simpa using hb
    have hle : s1.heap.objs.size ≤ b := by
      rcases e' with z | z
      · rw [z]; exact Nat.le_add_right _ _
      · rw [z]; exact Nat.le_refl _
    exact I1.fpOk hle (I1.hok.fresh hle)
theorem walk_enumS {z : Str} : Walk (Itse z) z.cps.size (fun _ => True) (fun i H v H' => ∃ T c, v = .ref T ∧ H T = none ∧ H' = upd H T (.tup [.int (i : Nat), .str ⟨#[c]⟩]) ∧ z.cps[i]? = some c) :=
  ⟨fun _ _ hi _ => hi, fun _ _ => rfl, fun _ _ _ _ _ _ y => y⟩

/-! ### sorted(e.keys()) -/
def tSortK (td : TE) : TE := fun σ H Q => td σ H fun x H1 => ∃ d kvs, x = .ref d ∧ Rd H1 d (.dK kvs) ∧
  ((∃ ks : List Str, kvs.map (·.1) = ks.map Sum.inr ∧ ∀ p, H1 p = none → Q (.ref p) (upd H1 p (.lst ((KP.sortS ks).map V.str)))) ∨
   (∃ ks : List Int, kvs.map (·.1) = ks.map Sum.inl ∧ ks.Pairwise (· < ·) ∧ ∀ p, H1 p = none → Q (.ref p) (upd H1 p (.lst (ks.map V.int)))))
theorem boot_sortedK : bootBuiltins "sorted" = some (.builtin "sorted") := by decide +kernel
theorem pe_sortedK {X : Cx} {e : Expr} {td : TE} {p apos cpos pos : Pos} (hcalm : X.calm = true) (hg : Gl X "sorted") (hm : X.mg "sorted" = none) (he : PE X e td)
    (hbase : attributeBase e "keys" X.env (eval e X.env) = eval e X.env := by rfl) (hline : (apos.endLine == cpos.line) = true := by rfl)
    (hs : starEach [.Call (.Attribute e "keys" apos) [] [] cpos] X.env = (false, eval (.Call (.Attribute e "keys" apos) [] [] cpos) X.env) :: starEach [] X.env := by rfl) :
    PE X (.Call (.Name "sorted" p) [.Call (.Attribute e "keys" apos) [] [] cpos] [] pos) (tSortK td) := by
  refine ⟨fun pins s σ H Q I h => ?_⟩
  refine wpAny_Call_Name_kw (ld_blt I hg hm boot_sortedK ?_)
  refine PyProof.Rows.callWith_builtin1 ?_ hs rfl
  rw [hs]
  show wpAny _ _ (spliced ((false, eval (.Call (.Attribute e "keys" apos) [] [] cpos) X.env) :: backTo pos (starEach [] X.env))) _ _ s
  refine Calls.spliced_cons ?_
  refine wpAny_Call_method (T := "dict") (id := "dict.keys") hbase rfl hline F.plainAttrs_dict F.slot_dict_keys F.type_dict_keys (thn (he.run pins s σ H _ I h) fun u s1 ⟨x, H1, I1, rx, d, kvs, ex, hd, q⟩ => ?_)
  subst ex
  obtain rfl : u = Value.ref d := rx
  obtain ⟨hz, lo, vs, rel, dd⟩ := dk_rd I1.hok hd
  obtain ⟨ep, hm⟩ := dd.dictAt
  refine ⟨hm.dictOf.typeIs, hm.dictOf.mapOf.noDict, ?_⟩
  have hl0 : kvs.length = vs.length := Paired.length rel
  have I2 : Inv X pins σ H1 { s1 with heap := s1.heap.push { cls := .type "dict_keys", data := .fields #[.ref d] } } := I1.kept (t' := s1.toks) fun b ob q => Heap.get?_push_of_some _ q
  show wpAny _ _ (callWith cpos (.builtin "dict.keys") [.ref d] [] []) _ X.xe s1
  refine method_meetsIn F.slot_dict_keys F.entry_dict_keys rfl (PySem.evalArgs_none ⟨rfl, hm.dictOf.typeIs, F.args_dict_keys_1 _, _, PySem.W.kdl_meets_keys (mixKind X.prog X.w) d lo, ⟨vs, hm.dictOf⟩, ?_⟩)
  refine Calls.spliced_nil ?_
  have view : PySem.W.KdlKeysView (s1.heap.push { cls := .type "dict_keys", data := .fields #[.ref d] }) s1.heap.objs.size d := ⟨_, Heap.get?_push_size _ rfl, rfl, rfl⟩
  have hat := hm.push { cls := .type "dict_keys", data := .fields #[.ref d] }
  have hvz : vs.length ≤ sizeLine := by rw [← hl0]; exact hz
  refine Calls.call_function_entry PyProof.Rows.kind_sorted PyProof.Rows.plain_sorted PyProof.Rows.entry_sorted (PyProof.Rows.args_sorted1 _) ?_
  unfold Builtin.«sorted»
  refine wpAny_bind (m := checkCount "sorted" 1 1 _) (wpAny_pure ?_)
  refine wpAny_bind (PySem.W.kdu_collect (A := X.A.in1) (PySem.W.kdl_keys (knd := mixKind X.prog X.w) (kvs := vs) (ep := ep)) (I.ok.hd hcalm) ⟨view, hat⟩ hvz fun h' tk acc hk hacc => ?_)
  have I3 : Inv X pins σ H1 { s1 with heap := h', toks := tk } := I2.kept (t' := tk) hk
  have hal : acc.toList.length = vs.length := by rw [Array.length_toList, hacc.1]
  refine wpAny_bind (wpAny_newList ?_ (by rw [hal]; exact hvz))
  have hoL : (h'.push (seqObj "list" acc.toList.toArray 0)).get? h'.objs.size = some (seqObj "list" acc.toList.toArray 0) := Heap.get?_push_size _ rfl
  show wpAny _ _ _ _ _ { s1 with heap := h'.push (seqObj "list" acc.toList.toArray 0), toks := tk }
  have hks : kvs.map (·.1) = vs.map (·.1) := rel.keys
  have key : ∀ (j : Nat) (v : Value), acc.toList[j]? = some v → ∃ k, (kvs.map (·.1))[j]? = some k ∧ keyIs k v = true := fun j v ev => by
    obtain ⟨k, x, e1, e2⟩ := hacc.2 j v (by rw [← Array.getElem?_toList]; exact ev)
    refine ⟨k, ?_, e2⟩
    rw [hks, List.getElem?_map, e1]; rfl
  have fin : ∀ {out : List Value} {zs : List V}, out.length = acc.toList.length → Vals zs out → (∀ p, H1 p = none → Q (.ref p) (upd H1 p (.lst zs))) →
      EP X pins σ Q (.ref h'.objs.size) { s1 with heap := PyProof.Rows.sortedHeap (h'.push (seqObj "list" acc.toList.toArray 0)) h'.objs.size acc.toList out.toArray, toks := tk } := fun {out zs} hol hv qq => by
    obtain ⟨e', he'⟩ := PyProof.Rows.sortedHeap_at (vs := acc.toList) (out := out.toArray) hoL
    have hlen : zs.length ≤ sizeLine := by rw [hv.length, hol, hal]; exact hvz
    refine ⟨.ref h'.objs.size, upd H1 h'.objs.size (.lst zs), I3.laid (t' := tk) (fun b u e => ?_) (Nat.le_refl _)
      (show ObjOk X.prog X.w _ _ _ (.lst zs) from ⟨hlen, out, e', hv, he'⟩), rfl, qq _ (I3.hok.fresh (Nat.le_refl _))⟩
    have hb : b < h'.objs.size := Heap.lt_size e
    rw [PyProof.Rows.sortedHeap_old (Nat.ne_of_lt hb) (by rw [size_push']; exact Nat.lt_succ_of_lt hb)]
    exact Heap.get?_push_of_some _ e
  rcases q with ⟨ks, hkk, q⟩ | ⟨ks, hkk, hpw, q⟩
  · have hlk : acc.toList.length = ks.length := by
      have e := congrArg List.length hkk
      rw [List.length_map, List.length_map] at e
      rw [hal, ← hl0, e]
    have hS : StrsAre acc.toList ks := strs_at hlk fun j v ev => by
      obtain ⟨k, e1, e2⟩ := key j v ev
      rw [hkk, List.getElem?_map] at e1
      cases e4 : ks[j]? with
      | none => rw [e4] at e1; cases e1
      | some y =>
        rw [e4] at e1
        have e5 : Sum.inr y = k := Option.some.inj e1
        subst e5
        obtain ⟨t, ev'⟩ := Value.isStrOf_shape (x := y) (v := v) e2
        exact ⟨y, t, rfl, ev'⟩
    refine wpAny_bind (wpAny_holding (wpAny_call_entry PyProof.Rows.slot_list_sort ⟨_, hoL, rfl⟩ PyProof.Rows.entry_list_sort
      (SrtO.list_sort_ord (s := { s1 with heap := h'.push (seqObj "list" acc.toList.toArray 0), toks := tk }) SrtO.swo_strK hoL (by rw [hal]; exact hvz) (fun h2 => SrtO.strs_sortableK hS h2) fun out h1 h2 => ⟨.none, rfl, ?_⟩) (PyProof.Rows.args_list_sort _)))
    exact wpAny_pure ⟨_, rfl, fin h2.perm.length_eq (vals_of_strs (SrtO.strs_outK hS h1 h2)) q⟩
  · have hlk : acc.toList.length = ks.length := by
      have e := congrArg List.length hkk
      rw [List.length_map, List.length_map] at e
      rw [hal, ← hl0, e]
    have hS : IntsAre acc.toList ks := ints_each hlk fun j v ev => by
      obtain ⟨k, e1, e2⟩ := key j v ev
      rw [hkk, List.getElem?_map] at e1
      cases e4 : ks[j]? with
      | none => rw [e4] at e1; cases e1
      | some y =>
        rw [e4] at e1
        have e5 : Sum.inl y = k := Option.some.inj e1
        subst e5
        obtain ⟨t, ev'⟩ := Value.isInt_shape (k := y) (v := v) e2
        exact ⟨y, t, rfl, ev'⟩
    refine wpAny_bind (wpAny_holding (wpAny_call_entry PyProof.Rows.slot_list_sort ⟨_, hoL, rfl⟩ PyProof.Rows.entry_list_sort
      (SrtO.list_sort_ord (s := { s1 with heap := h'.push (seqObj "list" acc.toList.toArray 0), toks := tk }) SrtO.swo_int hoL (by rw [hal]; exact hvz) (fun h2 => SrtO.ints_sortable hS h2) fun out h1 h2 => ⟨.none, rfl, ?_⟩) (PyProof.Rows.args_list_sort _)))
    obtain ⟨k1, k2, k3⟩ := SrtO.ints_out hS h1 h2
    rw [KP.ints_unique hpw k2 k3] at k1
    exact wpAny_pure ⟨_, rfl, fin h2.perm.length_eq (vals_of_ints k1) q⟩
end L2
/-! Plain Lean: words of a text, places, tables as nested association lists. -/
namespace KP
open PySem

theorem foldl_take {α β : Type} (f : β → α → β) (a : β) (l : List α) {i : Nat} {x : α} (h : l[i]? = some x) : (l.take (i + 1)).foldl f a = f ((l.take i).foldl f a) x := by
  rw [List.take_add_one, h, Option.toList_some, List.foldl_append]
  rfl

/-! ### words -/
/-- the sign as it stands in a word -/
def low (c : Nat) : Option Nat := if 65 ≤ c ∧ c ≤ 90 then some (c + 32) else if (97 ≤ c ∧ c ≤ 122) ∨ (48 ≤ c ∧ c ≤ 57) then some c else none
abbrev eS : Str := ⟨#[]⟩
def stepW (st : List Str × Str) (c : Nat) : List Str × Str :=
  match low c with
  | some d => (st.1, ⟨st.2.cps ++ #[d]⟩)
  | none => if st.2 = eS then st else (st.1 ++ [st.2], eS)
def runW (t : Str) (i : Nat) : List Str × Str := ((t.cps.toList ++ [32]).take i).foldl stepW ([], eS)
def wordsL (t : Str) : List Str := (runW t (t.cps.size + 1)).1

theorem runW_zero (t : Str) : runW t 0 = ([], eS) := rfl
theorem runW_succ {t : Str} {i c : Nat} (h : (t.cps.toList ++ [32])[i]? = some c) : runW t (i + 1) = stepW (runW t i) c := foldl_take _ _ _ h
theorem stepW_len (st : List Str × Str) (c : Nat) : (stepW st c).1.length ≤ st.1.length + 1 ∧ (stepW st c).2.cps.size ≤ st.2.cps.size + 1 := by
  unfold stepW
  cases low c with
  | some d => exact ⟨Nat.le_succ _, by simp⟩
  | none =>
    by_cases h : st.2 = eS
    · rw [if_pos h]; exact ⟨Nat.le_succ _, Nat.le_succ _⟩
    · rw [if_neg h]; exact ⟨by simp, by simp⟩
theorem runW_len (t : Str) : ∀ i, (runW t i).1.length ≤ i ∧ (runW t i).2.cps.size ≤ i
  | 0 => ⟨Nat.le_refl _, Nat.le_refl _⟩
  | i + 1 => by
    obtain ⟨h1, h2⟩ := runW_len t i
    cases e : (t.cps.toList ++ [32])[i]? with
    | some c =>
      rw [runW_succ e]
      obtain ⟨q1, q2⟩ := stepW_len (runW t i) c
      omega
    | none =>
      have hz : (t.cps.toList ++ [32]).length ≤ i := List.getElem?_eq_none_iff.mp e
      have e2 : runW t (i + 1) = runW t i := by unfold runW; rw [List.take_of_length_le hz, List.take_of_length_le (Nat.le_succ_of_le hz)]
      rw [e2]; omega
theorem wordsL_len (t : Str) : (wordsL t).length ≤ t.cps.size + 1 := (runW_len t _).1
/-- the letters of a word -/
def Lw (w : Str) : Prop := ∀ c ∈ w.cps, c < 123
theorem low_lt {c d : Nat} (h : low c = some d) : d < 123 := by
  unfold low at h
  split at h
  · injection h with h; omega
  · split at h
    · injection h with h; omega
    · cases h
theorem stepW_lw {st : List Str × Str} {c : Nat} (h : (∀ w ∈ st.1, Lw w) ∧ Lw st.2) : (∀ w ∈ (stepW st c).1, Lw w) ∧ Lw (stepW st c).2 := by
  unfold stepW
  cases e : low c with
  | some d =>
    refine ⟨h.1, fun x hx => ?_⟩
    rcases Array.mem_append.mp hx with q | q
    · exact h.2 x q
    · have : x = d := by simpa using q
      rw [this]; exact low_lt e
  | none =>
    by_cases q : st.2 = eS
    · rw [if_pos q]; exact h
    · rw [if_neg q]
      refine ⟨fun w hw => ?_, fun x hx => absurd hx (by simp)⟩
      rcases List.mem_append.mp hw with z | z
      · exact h.1 w z
      · rw [List.mem_singleton.mp z]; exact h.2
theorem foldW_lw : ∀ (l : List Nat) (st : List Str × Str), ((∀ w ∈ st.1, Lw w) ∧ Lw st.2) → (∀ w ∈ (l.foldl stepW st).1, Lw w) ∧ Lw (l.foldl stepW st).2
  | [], _, h => h
  | c :: l, st, h => foldW_lw l (stepW st c) (stepW_lw h)
theorem wordsL_lw (t : Str) : ∀ w ∈ wordsL t, Lw w := (foldW_lw _ _ ⟨fun w hw => absurd hw (by simp), fun x hx => absurd hx (by simp)⟩).1
theorem wordsL_empty : wordsL eS = [] := by decide

/-! ### association lists -/
section
variable {κ α β : Type} [DecidableEq κ]
def look : List (κ × α) → κ → Option α
  | [], _ => none
  | p :: r, k => if p.1 = k then some p.2 else look r k
def alt : List (κ × α) → κ → (Option α → α) → List (κ × α)
  | [], k, g => [(k, g none)]
  | p :: r, k, g => if p.1 = k then (p.1, g (some p.2)) :: r else p :: alt r k g
theorem look_alt (k j : κ) (g : Option α → α) : ∀ l : List (κ × α), look (alt l k g) j = if j = k then some (g (look l k)) else look l j
  | [] => by
    unfold alt look
    by_cases e : j = k
    · subst e; simp
    · rw [if_neg (fun z => e z.symm), if_neg e]; rfl
  | p :: r => by
    unfold alt
    by_cases e : p.1 = k
    · rw [if_pos e]
      unfold look
      by_cases q : j = k
      · rw [if_pos (e.trans q.symm), if_pos q, if_pos e]
      · rw [if_neg (fun z => q (z.symm.trans e)), if_neg q, if_neg (fun z => q (z.symm.trans e))]
    · rw [if_neg e]
      unfold look
      rw [look_alt k j g r]
      by_cases q : p.1 = j
      · rw [if_pos q, if_neg (fun z => e (q.trans z)), if_pos q]
      · rw [if_neg q, if_neg q]
        by_cases z : j = k
        · rw [if_pos z, if_pos z, if_neg e]
        · rw [if_neg z, if_neg z]
theorem look_same {k : κ} {g : Option α → α} {l : List (κ × α)} : look (alt l k g) k = some (g (look l k)) := by rw [look_alt, if_pos rfl]
theorem look_other {k j : κ} {g : Option α → α} {l : List (κ × α)} (h : j ≠ k) : look (alt l k g) j = look l j := by rw [look_alt, if_neg h]
theorem alt_pos {p : κ × α} {r : List (κ × α)} {k : κ} {g : Option α → α} (e : p.1 = k) : alt (p :: r) k g = (p.1, g (some p.2)) :: r := by
  conv => lhs; unfold alt
  rw [if_pos e]
theorem alt_neg {p : κ × α} {r : List (κ × α)} {k : κ} {g : Option α → α} (e : ¬ p.1 = k) : alt (p :: r) k g = p :: alt r k g := by
  conv => lhs; unfold alt
  rw [if_neg e]
theorem look_pos {p : κ × α} {r : List (κ × α)} {k : κ} (e : p.1 = k) : look (p :: r) k = some p.2 := by
  conv => lhs; unfold look
  rw [if_pos e]
theorem look_neg {p : κ × α} {r : List (κ × α)} {k : κ} (e : ¬ p.1 = k) : look (p :: r) k = look r k := by
  conv => lhs; unfold look
  rw [if_neg e]
theorem alt_alt (k : κ) (g h : Option α → α) : ∀ l : List (κ × α), alt (alt l k g) k h = alt l k fun o => h (some (g o))
  | [] => by unfold alt; simp [alt]
  | p :: r => by
    by_cases e : p.1 = k
    · rw [alt_pos e, alt_pos e, alt_pos (p := (p.1, g (some p.2))) e]
    · rw [alt_neg e, alt_neg e, alt_neg e, alt_alt k g h r]
theorem alt_congr {k : κ} {g h : Option α → α} : ∀ {l : List (κ × α)}, g (look l k) = h (look l k) → alt l k g = alt l k h
  | [], e => by unfold alt; rw [show g none = h none from e]
  | p :: r, e => by
    unfold alt
    by_cases q : p.1 = k
    · rw [if_pos q, if_pos q]
      have e' : g (some p.2) = h (some p.2) := by unfold look at e; rw [if_pos q] at e; exact e
      rw [e']
    · rw [if_neg q, if_neg q]
      unfold look at e
      rw [if_neg q] at e
      rw [alt_congr e]
/-- at unlike keys, the second there: the order does not matter -/
theorem alt_comm {k j : κ} {g h : Option α → α} (hkj : k ≠ j) : ∀ {l : List (κ × α)}, (look l j).isSome = true → alt (alt l k g) j h = alt (alt l j h) k g
  | [], e => by cases e
  | p :: r, e => by
    by_cases q : p.1 = k
    · have qj : ¬ p.1 = j := fun z => hkj (q.symm.trans z)
      have a1 : alt (p :: r) k g = (p.1, g (some p.2)) :: r := by conv => lhs; unfold alt; rw [if_pos q]
      have a2 : alt (p :: r) j h = p :: alt r j h := by conv => lhs; unfold alt; rw [if_neg qj]
      rw [a1, a2]
      conv => lhs; unfold alt; rw [if_neg (show ¬ (p.1, g (some p.2)).1 = j from qj)]
      conv => rhs; unfold alt; rw [if_pos q]
    · by_cases z : p.1 = j
      · have a1 : alt (p :: r) k g = p :: alt r k g := by conv => lhs; unfold alt; rw [if_neg q]
        have a2 : alt (p :: r) j h = (p.1, h (some p.2)) :: r := by conv => lhs; unfold alt; rw [if_pos z]
        rw [a1, a2]
        conv => lhs; unfold alt; rw [if_pos z]
        conv => rhs; unfold alt; rw [if_neg (show ¬ (p.1, h (some p.2)).1 = k from q)]
      · have e' : (look r j).isSome = true := by
          unfold look at e
          rw [if_neg z] at e
          exact e
        have a1 : alt (p :: r) k g = p :: alt r k g := by conv => lhs; unfold alt; rw [if_neg q]
        have a2 : alt (p :: r) j h = p :: alt r j h := by conv => lhs; unfold alt; rw [if_neg z]
        rw [a1, a2]
        conv => lhs; unfold alt; rw [if_neg z]
        conv => rhs; unfold alt; rw [if_neg q]
        rw [alt_comm hkj e']
theorem alt_keys (k : κ) (g : Option α → α) : ∀ l : List (κ × α), (alt l k g).map (·.1) = if (look l k).isSome = true then l.map (·.1) else l.map (·.1) ++ [k]
  | [] => by simp [alt, look]
  | p :: r => by
    unfold alt look
    by_cases e : p.1 = k
    · rw [if_pos e, if_pos e]; simp
    · rw [if_neg e, if_neg e, List.map_cons, alt_keys k g r]
      by_cases q : (look r k).isSome = true
      · rw [if_pos q, if_pos q]; rfl
      · rw [if_neg q, if_neg q]; rfl
theorem look_mem {k : κ} {a : α} : ∀ {l : List (κ × α)}, look l k = some a → (k, a) ∈ l
  | [], h => by cases h
  | p :: r, h => by
    unfold look at h
    by_cases e : p.1 = k
    · rw [if_pos e] at h
      have e2 : p.2 = a := Option.some.inj h
      exact List.mem_cons.mpr (.inl (by rw [← e, ← e2]))
    · rw [if_neg e] at h
      exact List.mem_cons_of_mem _ (look_mem h)
theorem look_none {k : κ} : ∀ {l : List (κ × α)}, look l k = none ↔ k ∉ l.map (·.1)
  | [] => by simp [look]
  | p :: r => by
    unfold look
    by_cases e : p.1 = k
    · rw [if_pos e]; simp [e]
    · rw [if_neg e, look_none (l := r)]
      simp only [List.map_cons, List.mem_cons, not_or]
      exact ⟨fun h => ⟨fun z => e z.symm, h⟩, fun h => h.2⟩
theorem look_of_mem {k : κ} {a : α} : ∀ {l : List (κ × α)}, (l.map (·.1)).Nodup → (k, a) ∈ l → look l k = some a
  | [], _, h => absurd h (by simp)
  | p :: r, nd, h => by
    have nd' : (p.1 :: r.map (·.1)).Nodup := nd
    obtain ⟨h1, h2⟩ := List.nodup_cons.mp nd'
    unfold look
    rcases List.mem_cons.mp h with e | m
    · rw [← e]; simp
    · have : ¬ p.1 = k := fun z => h1 (List.mem_map.mpr ⟨(k, a), m, z.symm⟩)
      rw [if_neg this]; exact look_of_mem h2 m
theorem alt_nodup {k : κ} {g : Option α → α} {l : List (κ × α)} (h : (l.map (·.1)).Nodup) : ((alt l k g).map (·.1)).Nodup := by
  rw [alt_keys]
  by_cases q : (look l k).isSome = true
  · rw [if_pos q]; exact h
  · rw [if_neg q]
    have n : k ∉ l.map (·.1) := look_none.mp (by cases e : look l k with | none => rfl | some a => rw [e] at q; exact absurd rfl q)
    refine List.nodup_append.mpr ⟨h, by simp, fun a ha b hb => ?_⟩
    rw [List.mem_singleton.mp hb]
    exact fun z => n (z ▸ ha)
theorem alt_len (k : κ) (g : Option α → α) (l : List (κ × α)) : (alt l k g).length ≤ l.length + 1 := by
  have e := congrArg List.length (alt_keys k g l)
  rw [List.length_map] at e
  rw [e]
  split
  · rw [List.length_map]; omega
  · rw [List.length_append, List.length_map]; simp
theorem alt_new {k : κ} {g : Option α → α} : ∀ {l : List (κ × α)}, look l k = none → alt l k g = l ++ [(k, g none)]
  | [], _ => rfl
  | p :: r, h => by
    unfold look at h
    by_cases e : p.1 = k
    · rw [if_pos e] at h; cases h
    · rw [if_neg e] at h
      unfold alt
      rw [if_neg e, alt_new h]; rfl
theorem alt_mem {k : κ} {g : Option α → α} {l : List (κ × α)} (nd : (l.map (·.1)).Nodup) {p : κ × α} (h : p ∈ alt l k g) : p ∈ l ∨ p = (k, g (look l k)) := by
  have e := look_of_mem (alt_nodup (k := k) (g := g) nd) (show (p.1, p.2) ∈ alt l k g from h)
  rw [look_alt] at e
  by_cases q : p.1 = k
  · rw [if_pos q] at e
    exact .inr (Prod.ext q (Option.some.inj e).symm)
  · rw [if_neg q] at e
    exact .inl (look_mem e)
end

/-! ### places -/
abbrev Rows := List (Int × List Int)
abbrev Words := List (Str × Rows)
abbrev Tab := List (Str × Words)
abbrev Doc := List (Str × Str)
abbrev Makes := List (Int × Doc)
def enumI (ws : List Str) : List (Int × Str) := ws.mapIdx fun i w => ((i : Int), w)
theorem enumI_len (ws : List Str) : (enumI ws).length = ws.length := List.length_mapIdx
theorem enumI_get {ws : List Str} {i : Nat} {w : Str} (h : ws[i]? = some w) : (enumI ws)[i]? = some ((i : Int), w) := by
  unfold enumI
  rw [List.getElem?_mapIdx, h]; rfl
theorem enumI_nil : enumI [] = [] := rfl
theorem enumI_ne {ws : List Str} (h : ws ≠ []) : enumI ws ≠ [] := fun e => h (by
  have := congrArg List.length e
  rw [enumI_len] at this
  exact List.length_eq_zero_iff.mp this)
def stepP (A : List (Str × List Int)) (aw : Int × Str) : List (Str × List Int) := alt A aw.2 fun o => o.getD [] ++ [aw.1]
def placesOf (ws : List Str) : List (Str × List Int) := (enumI ws).foldl stepP []
theorem foldP_nodup : ∀ (l : List (Int × Str)) (A : List (Str × List Int)), (A.map (·.1)).Nodup → ((l.foldl stepP A).map (·.1)).Nodup
  | [], _, h => h
  | _ :: l, _, h => foldP_nodup l _ (alt_nodup h)
theorem placesOf_nodup (ws : List Str) : ((placesOf ws).map (·.1)).Nodup := foldP_nodup _ _ List.nodup_nil

/-! ### one text's words into a table -/
def addP (m : Int) (T : Words) (wp : Str × List Int) : Words := alt T wp.1 fun o => o.getD [] ++ [(m, wp.2)]
def addL (m : Int) (T : Words) (aw : Int × Str) : Words := alt T aw.2 fun o => alt (o.getD []) m fun q => q.getD [] ++ [aw.1]
def FreshAt (m : Int) (T : Words) (w : Str) : Prop := look ((look T w).getD []) m = none
theorem look_snoc_none {κ α : Type} [DecidableEq κ] {k : κ} {a : α} : ∀ {l : List (κ × α)}, look l k = none → look (l ++ [(k, a)]) k = some a
  | [], _ => by simp [look]
  | p :: r, h => by
    unfold look at h
    by_cases e : p.1 = k
    · rw [if_pos e] at h; cases h
    · rw [if_neg e] at h
      show look (p :: (r ++ [(k, a)])) k = some a
      unfold look
      rw [if_neg e]
      exact look_snoc_none h
theorem alt_snoc {κ α : Type} [DecidableEq κ] {k : κ} {a : α} {g : Option α → α} : ∀ {l : List (κ × α)}, look l k = none → alt (l ++ [(k, a)]) k g = l ++ [(k, g (some a))]
  | [], _ => by simp [alt]
  | p :: r, h => by
    unfold look at h
    by_cases e : p.1 = k
    · rw [if_pos e] at h; cases h
    · rw [if_neg e] at h
      show alt (p :: (r ++ [(k, a)])) k g = p :: (r ++ [(k, g (some a))])
      unfold alt
      rw [if_neg e, alt_snoc h]
theorem addL_addP {m : Int} {T : Words} {w : Str} {ps : List Int} {a : Int} (h : FreshAt m T w) : addL m (addP m T (w, ps)) (a, w) = addP m T (w, ps ++ [a]) := by
  unfold addL addP
  dsimp only
  rw [alt_alt]
  refine alt_congr ?_
  unfold FreshAt at h
  show alt ((some ((look T w).getD [] ++ [(m, ps)])).getD []) m _ = (look T w).getD [] ++ [(m, ps ++ [a])]
  rw [Option.getD_some, alt_snoc h]
  rfl
theorem addL_new {m : Int} {T : Words} {w : Str} {a : Int} (h : FreshAt m T w) : addL m T (a, w) = addP m T (w, [a]) := by
  unfold addL addP
  dsimp only
  refine alt_congr ?_
  unfold FreshAt at h
  rw [alt_new h]
  rfl
theorem look_addP {m : Int} {T : Words} {w : Str} {ps : List Int} {j : Str} (h : j ≠ w) : look (addP m T (w, ps)) j = look T j := look_other h
theorem foldP_comm {m : Int} {w : Str} {a : Int} : ∀ (A : List (Str × List Int)) (T : Words), w ∉ A.map (·.1) → (look T w).isSome = true → addL m (A.foldl (addP m) T) (a, w) = A.foldl (addP m) (addL m T (a, w))
  | [], _, _, _ => rfl
  | (w', ps) :: A, T, hn, hs => by
    have hw : w ≠ w' := fun z => hn (by rw [z]; simp)
    have hA : w ∉ A.map (·.1) := fun z => hn (List.mem_cons_of_mem _ z)
    show addL m (A.foldl (addP m) (addP m T (w', ps))) (a, w) = A.foldl (addP m) (addP m (addL m T (a, w)) (w', ps))
    rw [foldP_comm A _ hA (by rw [look_addP hw]; exact hs)]
    congr 1
    exact alt_comm (Ne.symm hw) hs
theorem fold_step {m : Int} {w : Str} {a : Int} : ∀ (A : List (Str × List Int)) (T : Words), (A.map (·.1)).Nodup → FreshAt m T w → addL m (A.foldl (addP m) T) (a, w) = (stepP A (a, w)).foldl (addP m) T
  | [], T, _, hf => addL_new hf
  | (w', ps) :: A, T, nd, hf => by
    have nd' : (w' :: A.map (·.1)).Nodup := nd
    obtain ⟨h1, h2⟩ := List.nodup_cons.mp nd'
    show addL m (A.foldl (addP m) (addP m T (w', ps))) (a, w) = _
    by_cases e : w' = w
    · subst e
      have e2 : stepP ((w', ps) :: A) (a, w') = (w', ps ++ [a]) :: A := by unfold stepP alt; simp
      rw [e2, foldP_comm A _ h1 (by unfold addP; rw [look_same]; rfl), addL_addP hf]
      rfl
    · have e2 : stepP ((w', ps) :: A) (a, w) = (w', ps) :: stepP A (a, w) := by unfold stepP; conv => lhs; unfold alt; rw [if_neg e]
      rw [e2, fold_step A _ h2 (by unfold FreshAt; rw [look_addP (fun z => e z.symm)]; exact hf)]
      rfl
theorem fold_words_take {m : Int} {T : Words} (ws : List Str) (hf : ∀ w ∈ ws, FreshAt m T w) : ∀ i, i ≤ ws.length → ((enumI ws).take i).foldl (addL m) T = (((enumI ws).take i).foldl stepP []).foldl (addP m) T
  | 0, _ => rfl
  | i + 1, hi => by
    have hlt : i < ws.length := hi
    have e : ws[i]? = some ws[i] := by simp [hlt]
    rw [foldl_take _ _ _ (enumI_get e), foldl_take _ _ _ (enumI_get e), fold_words_take ws hf i (Nat.le_of_lt hlt)]
    exact fold_step _ _ (foldP_nodup _ _ List.nodup_nil) (hf _ (List.getElem_mem hlt))
theorem fold_words {m : Int} {T : Words} (ws : List Str) (hf : ∀ w ∈ ws, FreshAt m T w) : (enumI ws).foldl (addL m) T = (placesOf ws).foldl (addP m) T := by
  have h := fold_words_take ws hf ws.length (Nat.le_refl _)
  rw [← enumI_len, List.take_length] at h
  exact h

/-! ### a document, all makes -/
/-- the fields with words: how many, where -/
def cntOf (ft : Str × Str) : Option (Str × Nat × List (Str × List Int)) := if wordsL ft.2 = [] then none else some (ft.1, (wordsL ft.2).length, placesOf (wordsL ft.2))
def counted (d : Doc) : List (Str × Nat × List (Str × List Int)) := d.filterMap cntOf
def putF' (m : Int) (tab : Tab) (c : Str × Nat × List (Str × List Int)) : Tab := alt tab c.1 fun o => c.2.2.foldl (addP m) (o.getD [])
def tabP (tab : Tab) (md : Int × Doc) : Tab := (counted md.2).foldl (putF' md.1) tab
/-- the law's -/
def evL (m : Int) (f : Str) (tab : Tab) (aw : Int × Str) : Tab := alt tab f fun o => addL m (o.getD []) aw
def docL (m : Int) (tab : Tab) (ft : Str × Str) : Tab := (enumI (wordsL ft.2)).foldl (evL m ft.1) tab
def tabL (tab : Tab) (md : Int × Doc) : Tab := md.2.foldl (docL md.1) tab
theorem evL_fold {m : Int} {f : Str} : ∀ (l : List (Int × Str)) (tab : Tab), l ≠ [] → l.foldl (evL m f) tab = alt tab f fun o => l.foldl (addL m) (o.getD [])
  | [], _, h => absurd rfl h
  | [a], tab, _ => rfl
  | a :: b :: r, tab, _ => by
    show (b :: r).foldl (evL m f) (evL m f tab a) = _
    rw [evL_fold (b :: r) _ (by simp)]
    unfold evL
    rw [alt_alt]
    rfl
def FreshF (m : Int) (tab : Tab) (f : Str) : Prop := ∀ w, FreshAt m ((look tab f).getD []) w
theorem doc_eq {m : Int} : ∀ (d : Doc) (tab : Tab), (d.map (·.1)).Nodup → (∀ f ∈ d.map (·.1), FreshF m tab f) → (counted d).foldl (putF' m) tab = d.foldl (docL m) tab
  | [], _, _, _ => rfl
  | (f, t) :: d, tab, nd, hf => by
    have nd' : (f :: d.map (·.1)).Nodup := nd
    obtain ⟨h1, h2⟩ := List.nodup_cons.mp nd'
    by_cases e : wordsL t = []
    · have e1 : counted ((f, t) :: d) = counted d := by unfold counted; rw [List.filterMap_cons_none]; unfold cntOf; rw [if_pos e]
      have e2 : docL m tab (f, t) = tab := by unfold docL; rw [e]; rfl
      show _ = d.foldl (docL m) (docL m tab (f, t))
      rw [e1, e2]
      exact doc_eq d tab h2 fun g hg => hf g (List.mem_cons_of_mem _ hg)
    · have e1 : counted ((f, t) :: d) = (f, (wordsL t).length, placesOf (wordsL t)) :: counted d := by
        unfold counted; rw [List.filterMap_cons_some]; unfold cntOf; rw [if_neg e]
      have e2 : docL m tab (f, t) = putF' m tab (f, (wordsL t).length, placesOf (wordsL t)) := by
        unfold docL putF'
        rw [evL_fold _ _ (enumI_ne e)]
        refine alt_congr ?_
        exact fold_words _ fun w _ => hf f (by simp) w
      show _ = d.foldl (docL m) (docL m tab (f, t))
      rw [e1, e2]
      refine doc_eq d _ h2 fun g hg => ?_
      have hgf : g ≠ f := fun z => h1 (z ▸ hg)
      unfold FreshF putF'
      rw [look_other hgf]
      exact hf g (List.mem_cons_of_mem _ hg)
/-- every row list rises, below b -/
def RowsOk (b : Int) (rs : Rows) : Prop := rs.Pairwise (fun p q => p.1 < q.1) ∧ ∀ p ∈ rs, p.1 < b
def WordsOk (b : Int) (T : Words) : Prop := ∀ w, RowsOk b ((look T w).getD [])
def TabOk (b : Int) (tab : Tab) : Prop := ∀ f, WordsOk b ((look tab f).getD [])
theorem RowsOk.nil {b : Int} : RowsOk b [] := ⟨List.Pairwise.nil, fun _ h => absurd h (by simp)⟩
theorem RowsOk.mono {b c : Int} {rs : Rows} (h : RowsOk b rs) (l : b ≤ c) : RowsOk c rs := ⟨h.1, fun p hp => Int.lt_of_lt_of_le (h.2 p hp) l⟩
theorem RowsOk.fresh {b m : Int} {rs : Rows} (h : RowsOk b rs) (l : b ≤ m) : look rs m = none := look_none.mpr fun z => by
  obtain ⟨p, hp, e⟩ := List.mem_map.mp z
  have := h.2 p hp
  omega
theorem RowsOk.snoc {b : Int} {rs : Rows} {ps : List Int} (h : RowsOk b rs) : RowsOk (b + 1) (rs ++ [(b, ps)]) := by
  refine ⟨List.pairwise_append.mpr ⟨h.1, by simp, fun x hx y hy => ?_⟩, fun p hp => ?_⟩
  · rw [List.mem_singleton.mp hy]; exact h.2 x hx
  · rcases List.mem_append.mp hp with q | q
    · have := h.2 p q; omega
    · rw [List.mem_singleton.mp q]; show b < b + 1; omega
theorem fold_rows {m : Int} : ∀ (A : List (Str × List Int)) (T : Words) (w : Str), (A.map (·.1)).Nodup → ((look (A.foldl (addP m) T) w).getD [] = (look T w).getD []) ∨ (w ∈ A.map (·.1) ∧ ∃ ps, (look (A.foldl (addP m) T) w).getD [] = (look T w).getD [] ++ [(m, ps)])
  | [], _, _, _ => .inl rfl
  | (w', ps) :: A, T, w, nd => by
    have nd' : (w' :: A.map (·.1)).Nodup := nd
    obtain ⟨h1, h2⟩ := List.nodup_cons.mp nd'
    show ((look (A.foldl (addP m) (addP m T (w', ps))) w).getD [] = _) ∨ _ ∧ ∃ ps', (look (A.foldl (addP m) (addP m T (w', ps))) w).getD [] = _
    by_cases e : w = w'
    · subst e
      have q : (look (addP m T (w, ps)) w).getD [] = (look T w).getD [] ++ [(m, ps)] := by unfold addP; rw [look_same]; rfl
      rcases fold_rows A (addP m T (w, ps)) w h2 with z | ⟨z, _⟩
      · exact .inr ⟨by simp, ps, z.trans q⟩
      · exact absurd z h1
    · have q : look (addP m T (w', ps)) w = look T w := look_addP e
      rcases fold_rows A (addP m T (w', ps)) w h2 with z | ⟨z, ps', z'⟩
      · exact .inl (by rw [z, q])
      · exact .inr ⟨List.mem_cons_of_mem _ z, ps', by rw [z', q]⟩
theorem words_ok {m : Int} {A : List (Str × List Int)} {T : Words} (nd : (A.map (·.1)).Nodup) (h : WordsOk m T) : WordsOk (m + 1) (A.foldl (addP m) T) := fun w => by
  rcases fold_rows (m := m) A T w nd with z | ⟨_, ps, z⟩
  · rw [z]; exact (h w).mono (by omega)
  · rw [z]; exact (h w).snoc
/-- behind the fields of cs (each once) those keep below m + 1, the others below m -/
theorem counted_keys : ∀ d : Doc, (d.map (·.1)).Nodup → ((counted d).map (·.1)).Nodup ∧ ∀ f ∈ (counted d).map (·.1), f ∈ d.map (·.1)
  | [], _ => ⟨List.nodup_nil, fun _ h => h⟩
  | (f, t) :: d, nd => by
    have nd' : (f :: d.map (·.1)).Nodup := nd
    obtain ⟨h1, h2⟩ := List.nodup_cons.mp nd'
    obtain ⟨i1, i2⟩ := counted_keys d h2
    by_cases e : wordsL t = []
    · have e1 : counted ((f, t) :: d) = counted d := by unfold counted; rw [List.filterMap_cons_none]; unfold cntOf; rw [if_pos e]
      rw [e1]
      exact ⟨i1, fun g hg => List.mem_cons_of_mem _ (i2 g hg)⟩
    · have e1 : counted ((f, t) :: d) = (f, (wordsL t).length, placesOf (wordsL t)) :: counted d := by
        unfold counted; rw [List.filterMap_cons_some]; unfold cntOf; rw [if_neg e]
      rw [e1]
      refine ⟨List.nodup_cons.mpr ⟨fun z => h1 (i2 f z), i1⟩, fun g hg => ?_⟩
      rcases List.mem_cons.mp hg with z | z
      · rw [z]; simp
      · exact List.mem_cons_of_mem _ (i2 g z)
theorem counted_nd (d : Doc) : ∀ c ∈ counted d, (c.2.2.map (·.1)).Nodup ∧ 0 < c.2.1 := fun c hc => by
  obtain ⟨ft, _, e⟩ := List.mem_filterMap.mp hc
  unfold cntOf at e
  split at e
  · cases e
  · rename_i hne
    have e' := (Option.some.inj e).symm
    subst e'
    exact ⟨placesOf_nodup _, List.length_pos_iff.mpr hne⟩
theorem fields_ok {m : Int} : ∀ (cs : List (Str × Nat × List (Str × List Int))) (tab : Tab), (∀ c ∈ cs, (c.2.2.map (·.1)).Nodup) → (cs.map (·.1)).Nodup → (∀ f, f ∈ cs.map (·.1) → WordsOk m ((look tab f).getD [])) → TabOk (m + 1) tab → TabOk (m + 1) (cs.foldl (putF' m) tab)
  | [], _, _, _, _, h => h
  | c :: cs, tab, hc, nd, h0, h => by
    have nd' : (c.1 :: cs.map (·.1)).Nodup := nd
    obtain ⟨h1, h2⟩ := List.nodup_cons.mp nd'
    refine fields_ok cs _ (fun x hx => hc x (List.mem_cons_of_mem _ hx)) h2 (fun f hf => ?_) fun f => ?_
    · have : f ≠ c.1 := fun z => h1 (z ▸ hf)
      unfold putF'
      rw [look_other this]
      exact h0 f (List.mem_cons_of_mem _ hf)
    · unfold putF'
      by_cases e : f = c.1
      · subst e
        rw [look_same, Option.getD_some]
        exact words_ok (hc c (by simp)) (h0 c.1 (by simp))
      · rw [look_other e]
        exact h f
theorem tabP_ok {m b : Int} {d : Doc} {tab : Tab} (nd : (d.map (·.1)).Nodup) (h : TabOk b tab) (hb : b ≤ m) : TabOk (m + 1) (tabP tab (m, d)) :=
  fields_ok _ _ (fun c hc => (counted_nd d c hc).1) (counted_keys d nd).1 (fun f _ w => (h f w).mono hb) fun f w => (h f w).mono (by omega)
theorem tab_eq1 {m b : Int} {d : Doc} {tab : Tab} (nd : (d.map (·.1)).Nodup) (h : TabOk b tab) (hb : b ≤ m) : tabP tab (m, d) = tabL tab (m, d) :=
  doc_eq d tab nd fun f _ w => (h f w).fresh hb
theorem TabOk.nil {b : Int} : TabOk b [] := fun _ _ => RowsOk.nil
/-- makes rise from b on, each document's fields are unlike -/
def Rise (b : Int) : Makes → Prop
  | [] => True
  | p :: r => b ≤ p.1 ∧ (p.2.map (·.1)).Nodup ∧ Rise (p.1 + 1) r
theorem tab_eq : ∀ (ms : Makes) (b : Int) (tab : Tab), Rise b ms → TabOk b tab → ms.foldl tabP tab = ms.foldl tabL tab ∧ ∃ c, TabOk c (ms.foldl tabP tab)
  | [], b, tab, _, h => ⟨rfl, b, h⟩
  | (m, d) :: ms, b, tab, ⟨h1, h2, h3⟩, h => by
    show ms.foldl tabP (tabP tab (m, d)) = ms.foldl tabL (tabL tab (m, d)) ∧ ∃ c, TabOk c (ms.foldl tabP (tabP tab (m, d)))
    rw [← tab_eq1 h2 h h1]
    exact tab_eq ms (m + 1) _ h3 (tabP_ok h2 h h1)
def tabOf (ms : Makes) : Tab := ms.foldl tabP []
theorem tabOf_eq {ms : Makes} {b : Int} (h : Rise b ms) : tabOf ms = ms.foldl tabL [] := (tab_eq ms b [] h TabOk.nil).1
def rowsAt (tab : Tab) (f w : Str) : Rows := (look ((look tab f).getD []) w).getD []
theorem rowsAt_rise {ms : Makes} {b : Int} (h : Rise b ms) (f w : Str) : (rowsAt (tabOf ms) f w).Pairwise fun p q => p.1 < q.1 := by
  obtain ⟨c, hc⟩ := (tab_eq ms b [] h TabOk.nil).2
  exact (hc f w).1

/-! ### lengths -/
def lenRow (m : Int) (d : Doc) : List ((Int × Str) × Nat) := (counted d).map fun c => ((m, c.1), c.2.1)
def lensOf (ms : Makes) : List ((Int × Str) × Nat) := ms.flatMap fun p => lenRow p.1 p.2
theorem look_append {κ α : Type} [DecidableEq κ] {k : κ} : ∀ {l r : List (κ × α)}, look (l ++ r) k = (look l k).orElse fun _ => look r k
  | [], r => by simp [look]
  | p :: l, r => by
    show look (p :: (l ++ r)) k = _
    by_cases e : p.1 = k
    · rw [look_pos e, look_pos e]; rfl
    · rw [look_neg e, look_neg e, look_append]
theorem lenRow_look {m : Int} {f : Str} : ∀ d : Doc, (d.map (·.1)).Nodup → (look (lenRow m d) (m, f)).getD 0 = (wordsL ((look d f).getD eS)).length
  | [], _ => by
    show 0 = (wordsL eS).length
    rw [wordsL_empty]; rfl
  | (g, t) :: d, nd => by
    have nd' : (g :: d.map (·.1)).Nodup := nd
    obtain ⟨h1, h2⟩ := List.nodup_cons.mp nd'
    by_cases e : wordsL t = []
    · have e1 : counted ((g, t) :: d) = counted d := by unfold counted; rw [List.filterMap_cons_none]; unfold cntOf; rw [if_pos e]
      have e2 : lenRow m ((g, t) :: d) = lenRow m d := by unfold lenRow; rw [e1]
      rw [e2]
      by_cases q : g = f
      · subst q
        have n1 : look (lenRow m d) (m, g) = none := look_none.mpr fun z => by
          unfold lenRow at z
          rw [List.map_map] at z
          obtain ⟨c, hc, ec⟩ := List.mem_map.mp z
          have ec' : c.1 = g := congrArg Prod.snd ec
          exact h1 ((counted_keys d h2).2 g (List.mem_map.mpr ⟨c, hc, ec'⟩))
        have n2 : look ((g, t) :: d) g = some t := by simp [look]
        rw [n1, n2, Option.getD_some, e]; rfl
      · have n2 : look ((g, t) :: d) f = look d f := by conv => lhs; unfold look; rw [if_neg q]
        rw [n2]
        exact lenRow_look d h2
    · have e1 : counted ((g, t) :: d) = (g, (wordsL t).length, placesOf (wordsL t)) :: counted d := by
        unfold counted; rw [List.filterMap_cons_some]; unfold cntOf; rw [if_neg e]
      have e2 : lenRow m ((g, t) :: d) = ((m, g), (wordsL t).length) :: lenRow m d := by unfold lenRow; rw [e1]; rfl
      rw [e2]
      by_cases q : g = f
      · subst q
        have n2 : look ((g, t) :: d) g = some t := by simp [look]
        rw [n2]
        simp [look]
      · have n2 : look ((g, t) :: d) f = look d f := by conv => lhs; unfold look; rw [if_neg q]
        have n3 : look (((m, g), (wordsL t).length) :: lenRow m d) (m, f) = look (lenRow m d) (m, f) := by
          conv => lhs; unfold look; rw [if_neg (fun z => q (congrArg Prod.snd z))]
        rw [n2, n3]
        exact lenRow_look d h2
theorem lenRow_other {m n : Int} {f : Str} {d : Doc} (h : m ≠ n) : look (lenRow m d) (n, f) = none := look_none.mpr fun z => by
  unfold lenRow at z
  rw [List.map_map] at z
  obtain ⟨c, _, ec⟩ := List.mem_map.mp z
  exact h (congrArg Prod.fst ec)
theorem lens_below {n : Int} {f : Str} : ∀ (ms : Makes) (b : Int), Rise b ms → n < b → look (lensOf ms) (n, f) = none
  | [], _, _, _ => rfl
  | (m, d) :: ms, b, ⟨h1, h2, h3⟩, hn => by
    show look (lenRow m d ++ lensOf ms) (n, f) = none
    rw [look_append, lenRow_other (by omega)]
    exact lens_below ms (m + 1) h3 (by omega)
theorem lens_look {m : Int} {d : Doc} {f : Str} : ∀ (ms : Makes) (b : Int), Rise b ms → (m, d) ∈ ms → (look (lensOf ms) (m, f)).getD 0 = (wordsL ((look d f).getD eS)).length
  | [], _, _, h => absurd h (by simp)
  | (m', d') :: ms, b, ⟨h1, h2, h3⟩, h => by
    have e0 : look (lensOf ((m', d') :: ms)) (m, f) = (look (lenRow m' d') (m, f)).orElse fun _ => look (lensOf ms) (m, f) := look_append
    rw [e0]
    rcases List.mem_cons.mp h with e | h
    · injection e with e1 e2
      subst e1 e2
      rw [← lenRow_look d h2]
      cases q : look (lenRow m d) (m, f) with
      | some n => rfl
      | none => show (look (lensOf ms) (m, f)).getD 0 = 0; rw [lens_below ms (m + 1) h3 (by omega)]; rfl
    · have hm : m' ≠ m := by
        have : ∀ (ms : Makes) (b : Int), Rise b ms → (m, d) ∈ ms → b ≤ m := by
          intro ms
          induction ms with
          | nil => intro b _ h; exact absurd h (by simp)
          | cons p r ih =>
            intro b hr h
            obtain ⟨a1, _, a3⟩ := hr
            rcases List.mem_cons.mp h with e | h
            · rw [← e] at a1; exact a1
            · have := ih _ a3 h; omega
        have := this ms (m' + 1) h3 h
        omega
      rw [lenRow_other hm]
      exact lens_look ms (m' + 1) h3 h
end KP
/-! The text by places; what the top has written; facts of its texts. -/
namespace KP
open PySem L2
def top (i : Nat) : Stmt := PySem.Challenge.pw_findcourt_k06_pieces.main.body.getD i (.Pass ⟨0, 0, 0, 0⟩)
abbrev sIsName : Stmt := top 8
abbrev sLookDoc : Stmt := top 9
abbrev sLowered : Stmt := top 10
abbrev sWordsOf : Stmt := top 11
abbrev sLookMakes : Stmt := top 13
abbrev sCounted : Stmt := top 14
abbrev sCopied : Stmt := top 15
abbrev sInit : Stmt := inClass (top 16) 0
abbrev sTakeIn : Stmt := inClass (top 16) 1
abbrev sMakes : Stmt := inClass (top 16) 2
abbrev sFields : Stmt := inClass (top 16) 3
abbrev sWords : Stmt := inClass (top 16) 4
abbrev sPostings : Stmt := inClass (top 16) 5
abbrev sLength : Stmt := inClass (top 16) 6
abbrev sDraws : Stmt := top 19
abbrev sText : Stmt := top 20
abbrev sDocument : Stmt := top 21
abbrev sLWords : Stmt := top 22
abbrev sLTable : Stmt := top 23
abbrev sLTells : Stmt := top 24
abbrev sLMakes : Stmt := top 25
abbrev sLSpoil : Stmt := top 26
abbrev sLaw : Stmt := top 27
/-- what the walk asks of the top -/
structure Txt (K : PySem.W.Frag) (mg : Str → Option Value) (C : Addr) : Prop where
  cl : Cls K C
  nH : NoAttr K C "held_makes"
  nL : NoAttr K C "lengths"
  nT : NoAttr K C "table"
  mgC : mg "Piece" = some (.ref C)
  letters : ∃ t, mg "LETTERS" = some (.str "abcdefghijklmnopqrstuvwxyz" t)
  great : ∃ t, mg "GREAT" = some (.str "ABCDEFGHIJKLMNOPQRSTUVWXYZ" t)
  figures : ∃ t, mg "FIGURES" = some (.str "0123456789" t)
  len : mg "len" = none
  all : mg "all" = none
  enumerate : mg "enumerate" = none
  list : mg "list" = none
  sorted : mg "sorted" = none
  range : mg "range" = none
  abs : mg "abs" = none
  isinstance : mg "isinstance" = none
  bool : mg "bool" = none
  dict : mg "dict" = none
  min : mg "min" = none
  int : mg "int" = none

theorem rvS {x : Str} {t : Tok} : RelV (.str x) (.str x t) := ⟨t, rfl⟩
/-! ### facts of the written texts -/
theorem letters_list : (("abcdefghijklmnopqrstuvwxyz" : Str)).cps.toList = List.range' 97 26 := by decide +kernel
theorem great_list : (("ABCDEFGHIJKLMNOPQRSTUVWXYZ" : Str)).cps.toList = List.range' 65 26 := by decide +kernel
theorem figures_list : (("0123456789" : Str)).cps.toList = List.range' 48 10 := by decide +kernel
theorem mem_letters {c : Nat} : c ∈ (("abcdefghijklmnopqrstuvwxyz" : Str)).cps.toList ↔ 97 ≤ c ∧ c ≤ 122 := by
  rw [letters_list, List.mem_range'_1]; omega
theorem mem_great {c : Nat} : c ∈ (("ABCDEFGHIJKLMNOPQRSTUVWXYZ" : Str)).cps.toList ↔ 65 ≤ c ∧ c ≤ 90 := by
  rw [great_list, List.mem_range'_1]; omega
theorem mem_figures {c : Nat} : c ∈ (("0123456789" : Str)).cps.toList ↔ 48 ≤ c ∧ c ≤ 57 := by
  rw [figures_list, List.mem_range'_1]; omega
theorem great_at0 : ∀ k : Fin 26, (Builtin.Str.occurrences ("ABCDEFGHIJKLMNOPQRSTUVWXYZ" : Str) ⟨#[k.val + 65]⟩ 0 (("ABCDEFGHIJKLMNOPQRSTUVWXYZ" : Str)).length 1).head? = some k.val := by decide +kernel
theorem great_at {c : Nat} (h : 65 ≤ c ∧ c ≤ 90) : ∃ rest, Builtin.Str.occurrences ("ABCDEFGHIJKLMNOPQRSTUVWXYZ" : Str) ⟨#[c]⟩ 0 (("ABCDEFGHIJKLMNOPQRSTUVWXYZ" : Str)).length 1 = (c - 65) :: rest := by
  have q := great_at0 ⟨c - 65, by omega⟩
  have e : c - 65 + 65 = c := by omega
  simp only [e] at q
  cases z : Builtin.Str.occurrences ("ABCDEFGHIJKLMNOPQRSTUVWXYZ" : Str) ⟨#[c]⟩ 0 (("ABCDEFGHIJKLMNOPQRSTUVWXYZ" : Str)).length 1 with
  | nil => rw [z] at q; cases q
  | cons a r =>
    rw [z] at q
    have : a = c - 65 := Option.some.inj q
    exact ⟨r, by rw [this]⟩
def lowS (c : Nat) : Str := match low c with | some d => ⟨#[d]⟩ | none => eS
theorem lowS_great {c : Nat} (h : 65 ≤ c ∧ c ≤ 90) : lowS c = ⟨#[c + 32]⟩ := by unfold lowS low; rw [if_pos h]
theorem lowS_self {c : Nat} (h : ¬ (65 ≤ c ∧ c ≤ 90)) (h' : (97 ≤ c ∧ c ≤ 122) ∨ (48 ≤ c ∧ c ≤ 57)) : lowS c = ⟨#[c]⟩ := by unfold lowS low; rw [if_neg h, if_pos h']
theorem lowS_none {c : Nat} (h : ¬ (65 ≤ c ∧ c ≤ 90)) (h' : ¬ ((97 ≤ c ∧ c ≤ 122) ∨ (48 ≤ c ∧ c ≤ 57))) : lowS c = eS := by unfold lowS low; rw [if_neg h, if_neg h']
theorem empty_str : ("" : Str) = eS := by decide +kernel
theorem blank_str : (" " : Str) = ⟨#[32]⟩ := by decide +kernel
theorem atI_letters {c : Nat} (h : 65 ≤ c ∧ c ≤ 90) : atI (("abcdefghijklmnopqrstuvwxyz" : Str)).cps.toList (((c - 65 : Nat)) : Int) = some (c + 32) := by
  refine atI_nat ?_
  rw [letters_list, List.getElem?_range' (by omega)]
  congr 1; omega
end KP
namespace KP
open PySem L2
section
variable {P : Program} {w : World} {K : PySem.W.Frag} {mg : Str → Option Value} {base : Heap}
/-! lowered -/
def spLowered : Sp := fun vs H Q _ => ∃ c : Nat, vs = [.str ⟨#[c]⟩] ∧ Q (.str (lowS c)) H
theorem scLowered : FnScope ["sign"] ["sign"] (defScope sLowered) := ⟨rfl, rfl, rfl, by decide +kernel, rfl, by decide +kernel, by decide +kernel⟩
theorem ok_lowered {f C : Addr} {fd : FuncData} (F : Fun K "lowered" "lowered" sLowered f fd) (T : Txt K mg C) : FnOk P w K mg base CX0 1 f fd ["sign"] spLowered := by
  refine F.ok scLowered (fun vs H Q E h => ?_) (fun cdv A outer s H vs Q E hr h => ?_)
  · obtain ⟨c, rfl, _⟩ := h
    rfl
  · obtain ⟨c, rfl, k⟩ := h
    obtain ⟨tl, hl⟩ := T.letters
    obtain ⟨tg, hg⟩ := T.great
    obtain ⟨tf, hf⟩ := T.figures
    refine ⟨_, pss_cons (ps_if (pt_cmpR op_in_sign (pv 0) (pe_glob rfl hg rvS) rfl)
        (pss_one (ps_ret (pe_ix ix_str (pe_glob rfl hl rvS) (pe_m1 PySem.F.slot_str_index PySem.F.type_str_index mt_sindex (pe_glob rfl hg rvS) (pv 0)) (fun _ _ => rfl)))) pss_nil)
      (pss_cons (ps_if (PW.pt (pw_or (pt_cmpR op_in_sign (pv 0) (pe_glob rfl hl rvS) rfl) (pw_or1 (pt_cmpR op_in_sign (pv 0) (pe_glob rfl hf rvS) rfl))))
        (pss_one (ps_ret (pv 0))) pss_nil)
      (pss_one (ps_ret pe_str))), ?_⟩
    refine ⟨_, rfl, c, _, rfl, rfl, _, rfl, ?_⟩
    refine ite2 (fun h1 => ?_) (fun h1 => ?_)
    · have h2 := mem_great.mp (of_decide_eq_true h1)
      obtain ⟨rest, ho⟩ := great_at h2
      refine ⟨⟨_, rfl⟩, _, rfl, _, _, c - 65, rest, rfl, rfl, ho, _, _, c + 32, rfl, rfl, by decide +kernel, atI_letters h2, ?_⟩
      have k' := k
      rw [lowS_great h2] at k'
      exact k'
    · have h2 : ¬ (65 ≤ c ∧ c ≤ 90) := fun z => h1 (decide_eq_true (mem_great.mpr z))
      refine ⟨_, rfl, c, _, rfl, rfl, _, rfl, ?_⟩
      refine ite2 (fun h3 => ?_) (fun h3 => ?_)
      · refine iteT ?_
        refine ⟨_, rfl, ?_⟩
        have k' := k
        rw [lowS_self h2 (.inl (mem_letters.mp (of_decide_eq_true h3)))] at k'
        exact k'
      · refine ⟨_, rfl, c, _, rfl, rfl, _, rfl, ?_⟩
        refine ite2 (fun h4 => ?_) (fun h4 => ?_)
        · refine ⟨_, rfl, ?_⟩
          have k' := k
          rw [lowS_self h2 (.inr (mem_figures.mp (of_decide_eq_true h4)))] at k'
          exact k'
        · have k' := k
          rw [lowS_none h2 (fun z => z.elim (fun q => h3 (decide_eq_true (mem_letters.mpr q))) fun q => h4 (decide_eq_true (mem_figures.mpr q))), ← empty_str] at k'
          exact k'
end
end KP
/-! Heaps: what stays, what is new; the data of this program in a heap. -/
namespace KP
open PySem L2
section
variable {H H0 H1 H2 : Hp} {a b : Addr} {o u : HO}
theorem upd_old (h : H b = some u) (n : H a = none) : upd H a o b = some u := by rw [upd_ne (ne_of_none h n)]; exact h
theorem upd_oth (h : H b = some u) (n : b ≠ a) : upd H a o b = some u := by rw [upd_ne n]; exact h
theorem same_new (n : H a = none) : Same H (upd H a o) := fun _ _ h => upd_old h n
theorem same_at (s : Same H0 H) (n : H0 a = none) : Same H0 (upd H a o) := fun _ _ h => upd_oth (s _ _ h) (ne_of_none h n)
/-- lists and tuples stay -/
def TS (H H' : Hp) : Prop := ∀ p ys, H p = some (.tup ys) → H' p = some (.tup ys)
def LS (H H' : Hp) : Prop := ∀ p ys, H p = some (.lst ys) → H' p = some (.lst ys)
theorem TS.refl : TS H H := fun _ _ h => h
theorem LS.refl : LS H H := fun _ _ h => h
theorem TS.trans (h1 : TS H H1) (h2 : TS H1 H2) : TS H H2 := fun p ys h => h2 p ys (h1 p ys h)
theorem LS.trans (h1 : LS H H1) (h2 : LS H1 H2) : LS H H2 := fun p ys h => h2 p ys (h1 p ys h)
theorem sTS (s : Same H H1) : TS H H1 := fun p ys h => s _ _ h
theorem sLS (s : Same H H1) : LS H H1 := fun p ys h => s _ _ h
theorem ts_new (n : H a = none) : TS H (upd H a o) := fun _ _ h => upd_old h n
theorem ls_new (n : H a = none) : LS H (upd H a o) := fun _ _ h => upd_old h n
theorem ts_lst {xs : List V} (n : H a = some (.lst xs)) : TS H (upd H a o) := fun _ _ h => upd_oth h (ne_of h n (by intro z; cases z))
theorem ts_dK {xs : List (Key × V)} (n : H a = some (.dK xs)) : TS H (upd H a o) := fun _ _ h => upd_oth h (ne_of h n (by intro z; cases z))
theorem ls_dK {xs : List (Key × V)} (n : H a = some (.dK xs)) : LS H (upd H a o) := fun _ _ h => upd_oth h (ne_of h n (by intro z; cases z))
theorem ts_dT {xs : List (List Key × V)} (n : H a = some (.dT xs)) : TS H (upd H a o) := fun _ _ h => upd_oth h (ne_of h n (by intro z; cases z))
theorem ls_dT {xs : List (List Key × V)} (n : H a = some (.dT xs)) : LS H (upd H a o) := fun _ _ h => upd_oth h (ne_of h n (by intro z; cases z))
theorem ts_ins {C d : Addr} {xs : List (Str × V)} (n : H a = some (.ins C d xs)) : TS H (upd H a o) := fun _ _ h => upd_oth h (ne_of h n (by intro z; cases z))
theorem ls_ins {C d : Addr} {xs : List (Str × V)} (n : H a = some (.ins C d xs)) : LS H (upd H a o) := fun _ _ h => upd_oth h (ne_of h n (by intro z; cases z))
end
theorem pd_len {α β : Type} {R : α → β → Prop} {xs : List α} {ys : List β} (h : Paired R xs ys) : xs.length = ys.length := Paired.length h
theorem pd_get {α β : Type} {R : α → β → Prop} {xs : List α} {ys : List β} (h : Paired R xs ys) {i : Nat} {x : α} (e : xs[i]? = some x) : ∃ y, ys[i]? = some y ∧ R x y := L2.paired_get h e
theorem pd_get' {α β : Type} {R : α → β → Prop} {xs : List α} {ys : List β} (h : Paired R xs ys) {i : Nat} {y : β} (e : ys[i]? = some y) : ∃ x, xs[i]? = some x ∧ R x y := by
  have hi : i < xs.length := by rw [pd_len h]; exact (List.getElem?_eq_some_iff.mp e).1
  obtain ⟨z, h1, h2⟩ := pd_get h (show xs[i]? = some xs[i] by simp [hi])
  rw [h1] at e
  cases e
  exact ⟨_, by simp [hi], h2⟩
theorem pd_snoc {α β : Type} {R : α → β → Prop} {x : α} {y : β} (r : R x y) : ∀ {xs : List α} {ys : List β}, Paired R xs ys → Paired R (xs ++ [x]) (ys ++ [y])
  | _, _, .nil => .cons r .nil
  | _, _, .cons h t => .cons h (pd_snoc r t)
theorem pd_app {α β : Type} {R : α → β → Prop} : ∀ {xs xs' : List α} {ys ys' : List β}, Paired R xs ys → Paired R xs' ys' → Paired R (xs ++ xs') (ys ++ ys')
  | _, _, _, _, .nil, h => h
  | _, _, _, _, .cons r t, h => .cons r (pd_app t h)
theorem pd_take {α β : Type} {R : α → β → Prop} : ∀ (n : Nat) {xs : List α} {ys : List β}, Paired R xs ys → Paired R (xs.take n) (ys.take n)
  | 0, _, _, _ => .nil
  | _ + 1, _, _, .nil => .nil
  | n + 1, _, _, .cons r t => .cons r (pd_take n t)

/-- a def of the top, where it stands -/
structure DefAt (K : PySem.W.Frag) (mg : Str → Option Value) (x : Str) (st : Stmt) (ps : List Str) (f : Addr) (fd : FuncData) : Prop where
  fn : Fun K x x st f fd
  bd : Binds K fd ps []
  at_ : mg x = some (.ref f)
theorem app_blank {t : Str} : (t ++ (" " : Str)).cps.toList = t.cps.toList ++ [32] := by
  show (t.cps ++ (" " : Str).cps).toList = _
  rw [blank_str, Array.toList_append]
theorem app_blank_size {t : Str} : (t ++ (" " : Str)).cps.size = t.cps.size + 1 := by
  rw [← Array.length_toList, app_blank]; simp
theorem app_blank_get {t : Str} {i c : Nat} (h : (t ++ (" " : Str)).cps[i]? = some c) : (t.cps.toList ++ [32])[i]? = some c := by
  rw [← app_blank, Array.getElem?_toList]; exact h
theorem size_line {n : Nat} (h : n ≤ 1000000) : n ≤ sizeLine := Nat.le_trans h (by decide)
theorem size_lt {n : Nat} (h : n ≤ 1000000) : n < sizeLine := Nat.lt_of_le_of_lt h (by decide)
/-! ### a word with its place -/
def WordTup (H : Hp) (x : V) (w : Str) : Prop := ∃ (p : Addr) (b e : Int), x = V.ref p ∧ H p = some (.tup [.str w, .int b, .int e])
theorem WordTup.mono {H H' : Hp} {x : V} {w : Str} (h : WordTup H x w) (t : TS H H') : WordTup H' x w := by
  obtain ⟨p, b, e, h1, h2⟩ := h
  exact ⟨p, b, e, h1, t _ _ h2⟩
/-! ### a document, a list of makes -/
def ltS (a b : Str) : Prop := a.cps.toList < b.cps.toList
def IsNm (t : Str) : Prop := 0 < t.cps.size ∧ t.cps.size ≤ 12 ∧ ∀ c ∈ t.cps.toList, 97 ≤ c ∧ c ≤ 122
def FT (H : Hp) (x : V) (ft : Str × Str) : Prop := ∃ p : Addr, x = V.ref p ∧ H p = some (.tup [.str ft.1, .str ft.2])
theorem FT.mono {H H' : Hp} {x : V} {ft : Str × Str} (h : FT H x ft) (t : TS H H') : FT H' x ft := by
  obtain ⟨p, h1, h2⟩ := h
  exact ⟨p, h1, t _ _ h2⟩
def DocAt (H : Hp) (a : Addr) (doc : Doc) : Prop := ∃ xs, H a = some (.lst xs) ∧ Paired (FT H) xs doc
theorem DocAt.mono {H H' : Hp} {a : Addr} {doc : Doc} (h : DocAt H a doc) (t : TS H H') (l : LS H H') : DocAt H' a doc := by
  obtain ⟨xs, h1, h2⟩ := h
  exact ⟨xs, l _ _ h1, Paired.mapP h2 fun _ _ z => z.mono t⟩
structure DocOk (doc : Doc) : Prop where
  rise : doc.Pairwise fun p q => ltS p.1 q.1
  nm : ∀ p ∈ doc, IsNm p.1
  tx : ∀ p ∈ doc, p.2.cps.size ≤ 1000 ∧ ∀ c ∈ p.2.cps.toList, c < 128
  len : doc.length ≤ 20
theorem ltS_irrefl (a : Str) : ¬ ltS a a := List.lt_irrefl _
theorem DocOk.nd {doc : Doc} (h : DocOk doc) : (doc.map (·.1)).Nodup := by
  show List.Pairwise (fun a b => a ≠ b) (doc.map (·.1))
  exact List.pairwise_map.mpr (h.rise.imp fun {p q} (z : ltS p.1 q.1) (e : p.1 = q.1) => ltS_irrefl p.1 (by rw [← e] at z; exact z))
/-- a make with its document -/
def MD (H : Hp) (x : V) (md : Int × Doc) : Prop := ∃ (p a : Addr), x = V.ref p ∧ H p = some (.tup [.int md.1, .ref a]) ∧ DocAt H a md.2
theorem MD.mono {H H' : Hp} {x : V} {md : Int × Doc} (h : MD H x md) (t : TS H H') (l : LS H H') : MD H' x md := by
  obtain ⟨p, a, h1, h2, h3⟩ := h
  exact ⟨p, a, h1, t _ _ h2, h3.mono t l⟩
def MakesAt (H : Hp) (a : Addr) (ms : Makes) : Prop := ∃ xs, H a = some (.lst xs) ∧ Paired (MD H) xs ms
theorem MakesAt.mono {H H' : Hp} {a : Addr} {ms : Makes} (h : MakesAt H a ms) (t : TS H H') (l : LS H H') : MakesAt H' a ms := by
  obtain ⟨xs, h1, h2⟩ := h
  exact ⟨xs, l _ _ h1, Paired.mapP h2 fun _ _ z => z.mono t l⟩
structure MakesOk (ms : Makes) : Prop where
  rise : ms.Pairwise fun p q => p.1 < q.1
  pos : ∀ p ∈ ms, 0 ≤ p.1
  docs : ∀ p ∈ ms, DocOk p.2
  len : ms.length ≤ 40
end KP
/-! Dicts of a heap as association lists; the new part of a heap. -/
namespace KP
open PySem L2
/-! ### the new part of a heap -/
def fr (H H0 : Hp) : Hp := fun a => match H0 a with
  | none => H a
  | some _ => none
section
variable {H H' H0 H1 : Hp} {a : Addr} {o : HO}
theorem fr_of (n : H0 a = none) : fr H H0 a = H a := by unfold fr; rw [n]
theorem fr_old (n : H0 a ≠ none) : fr H H0 a = none := by
  unfold fr
  cases e : H0 a with
  | none => exact absurd e n
  | some u => rfl
theorem fr_at (h : fr H H0 a = some o) : H a = some o ∧ H0 a = none := by
  unfold fr at h
  cases e : H0 a with
  | none => rw [e] at h; exact ⟨h, rfl⟩
  | some u => rw [e] at h; cases h
theorem fr_in (h : H a = some o) (n : H0 a = none) : fr H H0 a = some o := by rw [fr_of n]; exact h
theorem fr_sub : Same (fr H H0) H := fun _ _ h => (fr_at h).1
theorem fr_upd (n : H0 a = none) : fr (upd H a o) H0 = upd (fr H H0) a o := by
  funext b
  by_cases e : b = a
  · subst e; rw [fr_of n, upd_same, upd_same]
  · rw [upd_ne e]
    unfold fr
    rw [upd_ne e]
theorem fr_same (s : Same H H') : Same (fr H H0) (fr H' H0) := fun b u h => by
  obtain ⟨h1, h2⟩ := fr_at h
  exact fr_in (s _ _ h1) h2
theorem fr_mono (s : Same H0 H1) : Same (fr H H1) (fr H H0) := fun b u h => by
  obtain ⟨h1, h2⟩ := fr_at h
  exact fr_in h1 (s.free h2)
theorem fr_free (h : H a = none) : fr H H0 a = none := by
  unfold fr
  split
  · exact h
  · rfl
theorem fr_self : fr H H = fun _ => none := by
  funext b
  unfold fr
  split <;> simp_all
end
theorem fr_upd_old {H H0 : Hp} {a : Addr} {o : HO} (n : H0 a ≠ none) : fr (upd H a o) H0 = fr H H0 := by
  funext b
  by_cases e : b = a
  · subst e; rw [fr_old n, fr_old n]
  · unfold fr
    rw [upd_ne e]
theorem dom_free {H H' : Hp} {d t : Addr} {o u : HO} (s : Same H H') (hd : H' d = some u) (h : H' t = none) : upd H d o t = none := by
  have hne : t ≠ d := fun z => by rw [z, hd] at h; cases h
  rw [upd_ne hne]
  exact s.free h
/-! ### dicts with text keys, with int keys -/
section
variable {α : Type} {R : V → α → Prop}
def KD (R : V → α → Prop) (kvs : List (Key × V)) (A : List (Str × α)) : Prop := Paired (fun (kv : Key × V) (p : Str × α) => kv.1 = Sum.inr p.1 ∧ R kv.2 p.2) kvs A
def KI (R : V → α → Prop) (kvs : List (Key × V)) (A : List (Int × α)) : Prop := Paired (fun (kv : Key × V) (p : Int × α) => kv.1 = Sum.inl p.1 ∧ R kv.2 p.2) kvs A
theorem KD.mono {R' : V → α → Prop} {kvs : List (Key × V)} {A : List (Str × α)} (h : KD R kvs A) (f : ∀ v a, R v a → R' v a) : KD R' kvs A := Paired.mapP h fun _ _ z => ⟨z.1, f _ _ z.2⟩
theorem KI.mono {R' : V → α → Prop} {kvs : List (Key × V)} {A : List (Int × α)} (h : KI R kvs A) (f : ∀ v a, R v a → R' v a) : KI R' kvs A := Paired.mapP h fun _ _ z => ⟨z.1, f _ _ z.2⟩
theorem KD.keys {kvs : List (Key × V)} {A : List (Str × α)} (h : KD R kvs A) : kvs.map (·.1) = (A.map (·.1)).map Sum.inr := by
  unfold KD at h
  induction h with
  | nil => rfl
  | cons r _ ih => rw [List.map_cons, List.map_cons, List.map_cons, ih, r.1]
theorem KI.keys {kvs : List (Key × V)} {A : List (Int × α)} (h : KI R kvs A) : kvs.map (·.1) = (A.map (·.1)).map Sum.inl := by
  unfold KI at h
  induction h with
  | nil => rfl
  | cons r _ ih => rw [List.map_cons, List.map_cons, List.map_cons, ih, r.1]
/-- what a dict holds at a key -/
def RO (R : V → α → Prop) : Option V → Option α → Prop
  | some v, some a => R v a
  | none, none => True
  | _, _ => False
theorem KD.val {kvs : List (Key × V)} {A : List (Str × α)} (h : KD R kvs A) (w : Str) : RO R (valV kvs (Sum.inr w : Key)) (look A w) := by
  unfold KD at h
  induction h with
  | nil => exact True.intro
  | @cons kv p kvs A r _ ih =>
    by_cases e : p.1 = w
    · rw [valV_pos (r.1.trans (congrArg Sum.inr e)), look_pos e]; exact r.2
    · rw [valV_neg (fun z => e (Sum.inr.inj (r.1.symm.trans z))), look_neg e]; exact ih
theorem KI.val {kvs : List (Key × V)} {A : List (Int × α)} (h : KI R kvs A) (w : Int) : RO R (valV kvs (Sum.inl w : Key)) (look A w) := by
  unfold KI at h
  induction h with
  | nil => exact True.intro
  | @cons kv p kvs A r _ ih =>
    by_cases e : p.1 = w
    · rw [valV_pos (r.1.trans (congrArg Sum.inl e)), look_pos e]; exact r.2
    · rw [valV_neg (fun z => e (Sum.inl.inj (r.1.symm.trans z))), look_neg e]; exact ih
theorem RO.none_iff {o : Option V} {u : Option α} (h : RO R o u) (e : u = none) : o = none := by
  subst e
  cases o with
  | none => rfl
  | some v => exact (show False from h).elim
theorem RO.some_of {o : Option V} {u : Option α} (h : RO R o u) {a : α} (e : u = some a) : ∃ v, o = some v ∧ R v a := by
  subst e
  cases o with
  | none => exact (show False from h).elim
  | some v => exact ⟨v, rfl, h⟩
/-- get with a default that stands for d -/
theorem RO.getD {o : Option V} {u : Option α} (h : RO R o u) {x : V} {d : α} (hx : R x d) : R (o.getD x) (u.getD d) := by
  cases o with
  | none => cases u with
    | none => exact hx
    | some _ => exact (show False from h).elim
  | some _ => cases u with
    | none => exact (show False from h).elim
    | some _ => exact h
theorem alt_map {κ : Type} [DecidableEq κ] {k : κ} {g : Option α → α} {a : α} : ∀ {l : List (κ × α)}, (l.map (·.1)).Nodup → look l k = some a → alt l k g = l.map fun p => if p.1 = k then (p.1, g (some a)) else p
  | [], _, h => by cases h
  | p :: r, nd, h => by
    have nd' : (p.1 :: r.map (·.1)).Nodup := nd
    obtain ⟨h1, h2⟩ := List.nodup_cons.mp nd'
    by_cases e : p.1 = k
    · rw [look_pos e] at h
      have e2 : p.2 = a := Option.some.inj h
      rw [alt_pos e, List.map_cons, if_pos e, e2]
      congr 1
      have : ∀ q ∈ r, (if q.1 = k then (q.1, g (some a)) else q) = q := fun q hq => by
        rw [if_neg]
        intro z
        exact h1 (by rw [e, ← z]; exact List.mem_map.mpr ⟨q, hq, rfl⟩)
      rw [List.map_congr_left this, List.map_id']
    · rw [look_neg e] at h
      rw [alt_neg e, List.map_cons, if_neg e, alt_map h2 h]
theorem KD.put {kvs : List (Key × V)} {A : List (Str × α)} (h : KD R kvs A) (nd : (A.map (·.1)).Nodup) {w : Str} {v : V} {g : Option α → α} (hv : R v (g (look A w))) : KD R (putK kvs (Sum.inr w : Key) v) (alt A w g) := by
  cases e : look A w with
  | none =>
    rw [putK_new v (RO.none_iff (h.val w) e), alt_new e]
    rw [e] at hv
    exact pd_snoc ⟨rfl, hv⟩ h
  | some a =>
    obtain ⟨x, hx, _⟩ := RO.some_of (h.val w) e
    have ha : (kvs.any fun kv => decide (kv.1 = (Sum.inr w : Key))) = true := by rw [valV_any, hx]; rfl
    rw [alt_map nd e]
    rw [e] at hv
    unfold putK
    rw [if_pos ha]
    clear ha hx e nd
    unfold KD at h ⊢
    induction h with
    | nil => exact .nil
    | @cons kv p kvs A r _ ih =>
      rw [List.map_cons, List.map_cons]
      refine .cons ?_ ih
      by_cases q : p.1 = w
      · rw [if_pos (r.1.trans (congrArg Sum.inr q)), if_pos q]; exact ⟨r.1, hv⟩
      · rw [if_neg (fun z => q (Sum.inr.inj (r.1.symm.trans z))), if_neg q]; exact r
theorem KI.put {kvs : List (Key × V)} {A : List (Int × α)} (h : KI R kvs A) (nd : (A.map (·.1)).Nodup) {w : Int} {v : V} {g : Option α → α} (hv : R v (g (look A w))) : KI R (putK kvs (Sum.inl w : Key) v) (alt A w g) := by
  cases e : look A w with
  | none =>
    rw [putK_new v (RO.none_iff (h.val w) e), alt_new e]
    rw [e] at hv
    exact pd_snoc ⟨rfl, hv⟩ h
  | some a =>
    obtain ⟨x, hx, _⟩ := RO.some_of (h.val w) e
    have ha : (kvs.any fun kv => decide (kv.1 = (Sum.inl w : Key))) = true := by rw [valV_any, hx]; rfl
    rw [alt_map nd e]
    rw [e] at hv
    unfold putK
    rw [if_pos ha]
    clear ha hx e nd
    unfold KI at h ⊢
    induction h with
    | nil => exact .nil
    | @cons kv p kvs A r _ ih =>
      rw [List.map_cons, List.map_cons]
      refine .cons ?_ ih
      by_cases q : p.1 = w
      · rw [if_pos (r.1.trans (congrArg Sum.inl q)), if_pos q]; exact ⟨r.1, hv⟩
      · rw [if_neg (fun z => q (Sum.inl.inj (r.1.symm.trans z))), if_neg q]; exact r
end
/-! ### lists of ints; places of words; what counted tells -/
def IL (H : Hp) (v : V) (ps : List Int) : Prop := ∃ l : Addr, v = .ref l ∧ H l = some (.lst (ps.map V.int))
theorem IL.mono {H H' : Hp} {v : V} {ps : List Int} (h : IL H v ps) (s : LS H H') : IL H' v ps := by
  obtain ⟨l, h1, h2⟩ := h
  exact ⟨l, h1, s _ _ h2⟩
def PlsAt (H : Hp) (d : Addr) (A : List (Str × List Int)) : Prop := ∃ kvs, H d = some (.dK kvs) ∧ KD (IL H) kvs A
theorem PlsAt.mono {H H' : Hp} {d : Addr} {A : List (Str × List Int)} (h : PlsAt H d A) (s : Same H H') : PlsAt H' d A := by
  obtain ⟨kvs, h1, h2⟩ := h
  exact ⟨kvs, s _ _ h1, h2.mono fun _ _ z => z.mono (sLS s)⟩
def Cnt (H : Hp) (v : V) (c : Nat × List (Str × List Int)) : Prop := ∃ t pd : Addr, v = .ref t ∧ H t = some (.tup [.int (c.1 : Nat), .ref pd]) ∧ PlsAt H pd c.2
theorem Cnt.mono {H H' : Hp} {v : V} {c : Nat × List (Str × List Int)} (h : Cnt H v c) (s : Same H H') : Cnt H' v c := by
  obtain ⟨t, pd, h1, h2, h3⟩ := h
  exact ⟨t, pd, h1, s _ _ h2, h3.mono s⟩
def CntAt (H : Hp) (d : Addr) (cs : List (Str × Nat × List (Str × List Int))) : Prop := ∃ kvs, H d = some (.dK kvs) ∧ KD (Cnt H) kvs cs
theorem CntAt.mono {H H' : Hp} {d : Addr} {cs : List (Str × Nat × List (Str × List Int))} (h : CntAt H d cs) (s : Same H H') : CntAt H' d cs := by
  obtain ⟨kvs, h1, h2⟩ := h
  exact ⟨kvs, s _ _ h1, h2.mono fun _ _ z => z.mono s⟩
theorem foldP_len : ∀ (l : List (Int × Str)) (A : List (Str × List Int)), (l.foldl stepP A).length ≤ A.length + l.length
  | [], A => Nat.le_refl _
  | x :: l, A => by
    have h1 := foldP_len l (stepP A x)
    have h2 := alt_len x.2 (fun o => o.getD [] ++ [x.1]) A
    show (l.foldl stepP (stepP A x)).length ≤ A.length + (l.length + 1)
    unfold stepP at h1 h2 ⊢
    omega
theorem rowlen_fold (w : Str) : ∀ (l : List (Int × Str)) (A : List (Str × List Int)), ((look (l.foldl stepP A) w).getD []).length ≤ ((look A w).getD []).length + l.length
  | [], A => Nat.le_refl _
  | x :: l, A => by
    have h1 := rowlen_fold w l (stepP A x)
    have h2 : ((look (stepP A x) w).getD []).length ≤ ((look A w).getD []).length + 1 := by
      unfold stepP
      by_cases e : w = x.2
      · rw [e, look_same]; simp
      · rw [look_other e]; exact Nat.le_succ _
    show ((look (l.foldl stepP (stepP A x)) w).getD []).length ≤ _ + (l.length + 1)
    omega
theorem rowlen_le (l : List (Int × Str)) (w : Str) : ((look (l.foldl stepP []) w).getD []).length ≤ l.length := by
  have := rowlen_fold w l []
  have e : ((look ([] : List (Str × List Int)) w).getD []).length = 0 := rfl
  omega
theorem counted_snoc (d : Doc) (ft : Str × Str) : counted (d ++ [ft]) = counted d ++ (cntOf ft).toList := by
  unfold counted
  rw [List.filterMap_append]
  cases e : cntOf ft with
  | none => rw [List.filterMap_cons_none e]; rfl
  | some c => rw [List.filterMap_cons_some e]; rfl
end KP
/-! The piece in a heap. -/
namespace KP
open PySem L2
def RowV (H : Hp) (x : V) (r : Int × List Int) : Prop := ∃ t l : Addr, x = .ref t ∧ H t = some (.tup [.int r.1, .ref l]) ∧ H l = some (.lst (r.2.map V.int))
theorem RowV.mono {H H' : Hp} {x : V} {r : Int × List Int} (h : RowV H x r) (t : TS H H') (l : LS H H') : RowV H' x r := by
  obtain ⟨a, b, h1, h2, h3⟩ := h
  exact ⟨a, b, h1, t _ _ h2, l _ _ h3⟩
def RowsV (H : Hp) (v : V) (rs : Rows) : Prop := ∃ (l : Addr) (xs : List V), v = .ref l ∧ H l = some (.lst xs) ∧ Paired (RowV H) xs rs
theorem RowsV.mono {H H' : Hp} {v : V} {rs : Rows} (h : RowsV H v rs) (t : TS H H') (l : LS H H') : RowsV H' v rs := by
  obtain ⟨a, xs, h1, h2, h3⟩ := h
  exact ⟨a, xs, h1, l _ _ h2, Paired.mapP h3 fun _ _ z => z.mono t l⟩
/-- D: where the dicts are read; R: where the rows are -/
def WordsV (D R : Hp) (v : V) (T : Words) : Prop := ∃ (wd : Addr) (kw : List (Key × V)), v = .ref wd ∧ D wd = some (.dK kw) ∧ KD (RowsV R) kw T
theorem WordsV.mono {D R D' R' : Hp} {v : V} {T : Words} (h : WordsV D R v T) (s : Same D D') (t : TS R R') (l : LS R R') : WordsV D' R' v T := by
  obtain ⟨a, kw, h1, h2, h3⟩ := h
  exact ⟨a, kw, h1, s _ _ h2, h3.mono fun _ _ z => z.mono t l⟩
def TabV (D R : Hp) (tb : Addr) (tab : Tab) : Prop := ∃ kvs, D tb = some (.dK kvs) ∧ KD (WordsV D R) kvs tab
theorem TabV.mono {D R D' R' : Hp} {tb : Addr} {tab : Tab} (h : TabV D R tb tab) (s : Same D D') (t : TS R R') (l : LS R R') : TabV D' R' tb tab := by
  obtain ⟨kvs, h1, h2⟩ := h
  exact ⟨kvs, s _ _ h1, h2.mono fun _ _ z => z.mono s t l⟩
/-- no key twice -/
def TabNd (tab : Tab) : Prop := (tab.map (·.1)).Nodup ∧ ∀ f, (((look tab f).getD []).map (·.1)).Nodup
/-- the table while it grows: all dicts apart -/
def TabI (D R : Hp) (tb : Addr) (tab : Tab) : Prop := ∃ kvs, D tb = some (.dK kvs) ∧ KD (WordsV D R) kvs tab ∧ (kvs.map (·.2)).Nodup ∧ (V.ref tb) ∉ kvs.map (·.2)
theorem TabI.tabV {D R : Hp} {tb : Addr} {tab : Tab} (h : TabI D R tb tab) : TabV D R tb tab := let ⟨kvs, h1, h2, _⟩ := h; ⟨kvs, h1, h2⟩
theorem TabI.monoR {D R R' : Hp} {tb : Addr} {tab : Tab} (h : TabI D R tb tab) (t : TS R R') (l : LS R R') : TabI D R' tb tab := by
  obtain ⟨kvs, h1, h2, h3⟩ := h
  exact ⟨kvs, h1, h2.mono fun _ _ z => z.mono (Same.refl D) t l, h3⟩
/-- sizes -/
def SZ (tab : Tab) (B : Nat) : Prop := tab.length ≤ B ∧ ∀ f, ((look tab f).getD []).length ≤ B ∧ ∀ w, (rowsAt tab f w).length ≤ B
theorem SZ.mono {tab : Tab} {B B' : Nat} (h : SZ tab B) (l : B ≤ B') : SZ tab B' := ⟨Nat.le_trans h.1 l, fun f => ⟨Nat.le_trans (h.2 f).1 l, fun w => Nat.le_trans ((h.2 f).2 w) l⟩⟩
theorem SZ.nil : SZ [] 0 := ⟨Nat.le_refl _, fun f => ⟨Nat.le_refl _, fun w => Nat.le_refl _⟩⟩
theorem TabNd.nil : TabNd [] := ⟨List.nodup_nil, fun _ => List.nodup_nil⟩
theorem addP_len (m : Int) : ∀ (A : List (Str × List Int)) (T : Words), (A.foldl (addP m) T).length ≤ T.length + A.length
  | [], T => Nat.le_refl _
  | x :: A, T => by
    have h1 := addP_len m A (addP m T x)
    have h2 : (addP m T x).length ≤ T.length + 1 := alt_len _ _ _
    show (A.foldl (addP m) (addP m T x)).length ≤ T.length + (A.length + 1)
    omega
theorem addP_rows (m : Int) (w : Str) : ∀ (A : List (Str × List Int)) (T : Words), ((look (A.foldl (addP m) T) w).getD []).length ≤ ((look T w).getD []).length + A.length
  | [], T => Nat.le_refl _
  | x :: A, T => by
    have h1 := addP_rows m w A (addP m T x)
    have h2 : ((look (addP m T x) w).getD []).length ≤ ((look T w).getD []).length + 1 := by
      unfold addP
      by_cases e : w = x.1
      · rw [e, look_same]; simp
      · rw [look_other e]; exact Nat.le_succ _
    show ((look (A.foldl (addP m) (addP m T x)) w).getD []).length ≤ _ + (A.length + 1)
    omega
theorem addP_nd (m : Int) : ∀ (A : List (Str × List Int)) (T : Words), (T.map (·.1)).Nodup → ((A.foldl (addP m) T).map (·.1)).Nodup
  | [], T, h => h
  | x :: A, T, h => addP_nd m A _ (alt_nodup h)
theorem putF_sz {m : Int} {tab : Tab} {c : Str × Nat × List (Str × List Int)} {B : Nat} (h : SZ tab B) : SZ (putF' m tab c) (B + c.2.2.length + 1) := by
  unfold putF'
  refine ⟨?_, fun f => ?_⟩
  · have := alt_len c.1 (fun o => c.2.2.foldl (addP m) (o.getD [])) tab
    have := h.1
    omega
  · by_cases e : f = c.1
    · subst e
      refine ⟨?_, fun w => ?_⟩
      · rw [look_same, Option.getD_some]
        have := addP_len m c.2.2 ((look tab c.1).getD [])
        have := (h.2 c.1).1
        omega
      · unfold rowsAt
        rw [look_same, Option.getD_some]
        have h1 := addP_rows m w c.2.2 ((look tab c.1).getD [])
        have h2 : ((look ((look tab c.1).getD []) w).getD []).length ≤ B := (h.2 c.1).2 w
        omega
    · refine ⟨?_, fun w => ?_⟩
      · rw [look_other e]
        have := (h.2 f).1
        omega
      · unfold rowsAt
        rw [look_other e]
        have h2 : ((look ((look tab f).getD []) w).getD []).length ≤ B := (h.2 f).2 w
        omega
theorem putF_nd {m : Int} {tab : Tab} {c : Str × Nat × List (Str × List Int)} (h : TabNd tab) : TabNd (putF' m tab c) := by
  unfold putF'
  refine ⟨alt_nodup h.1, fun f => ?_⟩
  by_cases e : f = c.1
  · subst e
    rw [look_same, Option.getD_some]
    exact addP_nd m _ _ (h.2 _)
  · rw [look_other e]
    exact h.2 f

/-! ### the lengths -/
def kvL (ls : List ((Int × Str) × Nat)) : List (List Key × V) := ls.map fun p => ([Sum.inl p.1.1, Sum.inr p.1.2], V.int (p.2 : Nat))
theorem kvL_val (m : Int) (f : Str) : ∀ ls : List ((Int × Str) × Nat), valV (kvL ls) ([Sum.inl m, Sum.inr f] : List Key) = (look ls (m, f)).map fun n => V.int (n : Nat)
  | [] => rfl
  | p :: r => by
    have ih := kvL_val m f r
    show valV (([Sum.inl p.1.1, Sum.inr p.1.2], V.int (p.2 : Nat)) :: kvL r) _ = _
    by_cases e : p.1 = (m, f)
    · have e1 : ([Sum.inl p.1.1, Sum.inr p.1.2] : List Key) = [Sum.inl m, Sum.inr f] := by rw [e]
      rw [valV_pos (p := ([Sum.inl p.1.1, Sum.inr p.1.2], V.int (p.2 : Nat))) e1, look_pos e]; rfl
    · have e1 : ¬ ([Sum.inl p.1.1, Sum.inr p.1.2] : List Key) = [Sum.inl m, Sum.inr f] := fun z => e (by
        injection z with z1 z2
        injection z2 with z2 _
        exact Prod.ext (Sum.inl.inj z1) (Sum.inr.inj z2))
      rw [valV_neg (p := ([Sum.inl p.1.1, Sum.inr p.1.2], V.int (p.2 : Nat))) e1, look_neg e, ih]
theorem kvL_len (ls : List ((Int × Str) × Nat)) : (kvL ls).length = ls.length := List.length_map _

/-! ### the fields of a Piece -/
theorem ne_hl : ¬ (("held_makes" : Str) = "lengths") := by decide +kernel
theorem ne_ht : ¬ (("held_makes" : Str) = "table") := by decide +kernel
theorem ne_lt : ¬ (("lengths" : Str) = "table") := by decide +kernel
def flds (hl ld tb : Addr) : List (Str × V) := [("held_makes", V.ref hl), ("lengths", V.ref ld), ("table", V.ref tb)]
theorem flds1 (hl : Addr) : putF "held_makes" (.ref hl) [] = ([("held_makes", V.ref hl)] : List (Str × V)) := rfl
theorem flds2 (hl ld : Addr) : putF "lengths" (.ref ld) ([("held_makes", V.ref hl)] : List (Str × V)) = ([("held_makes", V.ref hl), ("lengths", V.ref ld)] : List (Str × V)) := by
  show (if ("held_makes" : Str) = "lengths" then _ else (("held_makes" : Str), V.ref hl) :: putF "lengths" (V.ref ld) []) = ([("held_makes", V.ref hl), ("lengths", V.ref ld)] : List (Str × V))
  rw [if_neg ne_hl]; rfl
theorem flds3 (hl ld tb : Addr) : putF "table" (.ref tb) ([("held_makes", V.ref hl), ("lengths", V.ref ld)] : List (Str × V)) = flds hl ld tb := by
  show (if ("held_makes" : Str) = "table" then _ else (("held_makes" : Str), V.ref hl) :: (if ("lengths" : Str) = "table" then _ else (("lengths" : Str), V.ref ld) :: putF "table" (V.ref tb) [])) = flds hl ld tb
  rw [if_neg ne_ht, if_neg ne_lt]; rfl
theorem flds_h (hl ld tb : Addr) : (flds hl ld tb).lookup ("held_makes" : Str) = some (.ref hl) := by simp [flds, List.lookup]
theorem flds_l (hl ld tb : Addr) : (flds hl ld tb).lookup ("lengths" : Str) = some (.ref ld) := by
  have e : (("lengths" : Str) == ("held_makes" : Str)) = false := by decide +kernel
  simp [flds, List.lookup, e]
theorem flds_t (hl ld tb : Addr) : (flds hl ld tb).lookup ("table" : Str) = some (.ref tb) := by
  have e : (("table" : Str) == ("held_makes" : Str)) = false := by decide +kernel
  have e2 : (("table" : Str) == ("lengths" : Str)) = false := by decide +kernel
  simp [flds, List.lookup, e, e2]
theorem flds_no (hl ld tb : Addr) {m : Str} (h1 : (m == ("held_makes" : Str)) = false) (h2 : (m == ("lengths" : Str)) = false) (h3 : (m == ("table" : Str)) = false) : (flds hl ld tb).lookup m = none := by
  simp [flds, List.lookup, h1, h2, h3]

/-- a Piece of ms stands at x -/
def PieceAt (H : Hp) (C x : Addr) (ms : Makes) : Prop := ∃ dx hl ld tb : Addr, H x = some (.ins C dx (flds hl ld tb)) ∧ H hl = some (.lst (ms.map fun p => V.int p.1)) ∧ H ld = some (.dT (kvL (lensOf ms))) ∧ TabV H H tb (tabOf ms)
theorem PieceAt.mono {H H' : Hp} {C x : Addr} {ms : Makes} (h : PieceAt H C x ms) (s : Same H H') : PieceAt H' C x ms := by
  obtain ⟨dx, hl, ld, tb, h1, h2, h3, h4⟩ := h
  exact ⟨dx, hl, ld, tb, s _ _ h1, s _ _ h2, s _ _ h3, h4.mono s (sTS s) (sLS s)⟩
/-! ### the table changes at one dict -/
theorem fr_ts {H H' H0 : Hp} (t : TS H H') : TS (fr H H0) (fr H' H0) := fun p ys h => fr_in (t _ _ (fr_at h).1) (fr_at h).2
theorem fr_ls {H H' H0 : Hp} (t : LS H H') : LS (fr H H0) (fr H' H0) := fun p ys h => fr_in (t _ _ (fr_at h).1) (fr_at h).2
theorem fr_dom {H H0 : Hp} {a : Addr} {o : HO} (n : H0 a ≠ none) : fr H (upd H0 a o) = fr H H0 := by
  funext b
  by_cases e : b = a
  · subst e
    rw [fr_old n, fr_old (by rw [upd_same]; intro z; cases z)]
  · unfold fr
    rw [upd_ne e]
theorem ts_frz {H : Hp} {a : Addr} {o : HO} {od : Obj} {u : HO} (n : H a = some (.frz od u)) : TS H (upd H a o) := fun _ _ h => upd_oth h (ne_of h n (by intro z; cases z))
theorem ls_frz {H : Hp} {a : Addr} {o : HO} {od : Obj} {u : HO} (n : H a = some (.frz od u)) : LS H (upd H a o) := fun _ _ h => upd_oth h (ne_of h n (by intro z; cases z))
theorem words_upd {D R : Hp} {a : Addr} {o : HO} {v : V} {T : Words} (h : WordsV D R v T) (n : v ≠ .ref a) : WordsV (upd D a o) R v T := by
  obtain ⟨wd, kw, rfl, h2, h3⟩ := h
  exact ⟨wd, kw, rfl, upd_oth h2 (fun z => n (by rw [z])), h3⟩
theorem kd_upd {D R : Hp} {a : Addr} {o : HO} {kvs : List (Key × V)} {tab : Tab} (h : KD (WordsV D R) kvs tab) (n : V.ref a ∉ kvs.map (·.2)) : KD (WordsV (upd D a o) R) kvs tab := by
  unfold KD at h ⊢
  induction h with
  | nil => exact .nil
  | @cons kv p kvs tab r _ ih =>
    rw [List.map_cons] at n
    exact .cons ⟨r.1, words_upd r.2 fun z => n (by rw [z]; exact List.mem_cons_self)⟩ (ih fun z => n (List.mem_cons_of_mem _ z))
theorem kd_at {D R : Hp} {wd : Addr} {o : HO} {f : Str} {T : Words} (hT : WordsV (upd D wd o) R (.ref wd) T) {kvs : List (Key × V)} {tab : Tab} (h : KD (WordsV D R) kvs tab) :
    (kvs.map (·.2)).Nodup → valV kvs (Sum.inr f : Key) = some (.ref wd) → KD (WordsV (upd D wd o) R) kvs (alt tab f fun _ => T) := by
  unfold KD at h
  induction h with
  | nil => intro _ z; cases z
  | @cons kv p kvs tab r t ih =>
    intro nd hv
    rw [List.map_cons] at nd
    obtain ⟨n1, n2⟩ := List.nodup_cons.mp nd
    by_cases e : p.1 = f
    · have ek : kv.1 = (Sum.inr f : Key) := r.1.trans (congrArg Sum.inr e)
      rw [valV_pos ek] at hv
      have ev : kv.2 = .ref wd := Option.some.inj hv
      rw [alt_pos e]
      refine .cons ⟨r.1, by rw [ev]; exact hT⟩ (kd_upd t ?_)
      rw [← ev]; exact n1
    · have ek : ¬ kv.1 = (Sum.inr f : Key) := fun z => e (Sum.inr.inj (r.1.symm.trans z))
      rw [valV_neg ek] at hv
      rw [alt_neg e]
      refine .cons ⟨r.1, words_upd r.2 fun z => n1 ?_⟩ (ih n2 hv)
      rw [z]
      unfold valV at hv
      obtain ⟨q, hq, e2⟩ := Option.map_eq_some_iff.mp hv
      exact List.mem_map.mpr ⟨q, List.mem_of_find?_eq_some hq, e2⟩
theorem putK_same {kvs : List (Key × V)} {k : Key} {v : V} (nd : (kvs.map (·.1)).Nodup) (h : valV kvs k = some v) : putK kvs k v = kvs := by
  unfold putK
  rw [if_pos (by rw [valV_any, h]; rfl)]
  have : ∀ q ∈ kvs, (if q.1 = k then (q.1, v) else q) = q := fun q hq => by
    by_cases e : q.1 = k
    · rw [if_pos e]
      have e2 : valV kvs k = some q.2 := by
        clear h
        induction kvs with
        | nil => exact absurd hq (by simp)
        | cons p r ih =>
          rw [List.map_cons] at nd
          obtain ⟨n1, n2⟩ := List.nodup_cons.mp nd
          rcases List.mem_cons.mp hq with z | z
          · rw [← z]; exact valV_pos e
          · rw [valV_neg (fun y => n1 (by rw [y, ← e]; exact List.mem_map.mpr ⟨q, z, rfl⟩))]
            exact ih n2 z
      rw [h] at e2
      exact Prod.ext rfl (Option.some.inj e2)
    · rw [if_neg e]
  rw [List.map_congr_left this, List.map_id']
theorem kd_mem {D R : Hp} {kvs : List (Key × V)} {tab : Tab} (h : KD (WordsV D R) kvs tab) {v : V} (m : v ∈ kvs.map (·.2)) : ∃ wd kw, v = .ref wd ∧ D wd = some (.dK kw) := by
  unfold KD at h
  induction h with
  | nil => exact absurd m (by simp)
  | @cons kv p kvs tab r _ ih =>
    rw [List.map_cons] at m
    rcases List.mem_cons.mp m with e | m
    · obtain ⟨wd, kw, h1, h2, _⟩ := r.2
      exact ⟨wd, kw, e.trans h1, h2⟩
    · exact ih m
/-! ### the frame grows -/
def gr (Hc H2 H3 : Hp) : Hp := fun b => match H2 b with
  | none => H3 b
  | some _ => Hc b
section
variable {Hc H2 H3 : Hp}
theorem gr_new {b : Addr} (n : H2 b = none) : gr Hc H2 H3 b = H3 b := by unfold gr; rw [n]
theorem gr_old {b : Addr} {o : HO} (n : H2 b = some o) : gr Hc H2 H3 b = Hc b := by unfold gr; rw [n]
theorem gr_same (s : Same Hc H2) : Same Hc (gr Hc H2 H3) := fun b u h => by rw [gr_old (s _ _ h)]; exact h
theorem gr_sub (s : Same Hc H2) (s' : Same H2 H3) : Same (gr Hc H2 H3) H3 := fun b u h => by
  cases e : H2 b with
  | none => rw [gr_new e] at h; exact h
  | some o => rw [gr_old e] at h; exact s' _ _ (s _ _ h)
theorem gr_fr : Same (fr H3 H2) (gr Hc H2 H3) := fun b u h => by
  obtain ⟨h1, h2⟩ := fr_at h
  rw [gr_new h2]; exact h1
theorem fr_gr (s : Same Hc H2) (s' : Same H2 H3) : fr H3 (gr Hc H2 H3) = fr H2 Hc := by
  funext b
  cases e : H2 b with
  | none =>
    rw [fr_of (s.free e), e]
    cases q : H3 b with
    | none => exact fr_free q
    | some o => rw [fr_old]; rw [gr_new e, q]; intro z; cases z
  | some o =>
    cases q : Hc b with
    | none => rw [fr_of (by rw [gr_old e]; exact q), fr_of q, s' _ _ e, e]
    | some u => rw [fr_old (by rw [gr_old e, q]; intro z; cases z), fr_old (by rw [q]; intro z; cases z)]
end
/-- dicts with plain keys stay -/
def KS (H H' : Hp) : Prop := ∀ p ys, H p = some (.dK ys) → H' p = some (.dK ys)
theorem sKS {H H' : Hp} (s : Same H H') : KS H H' := fun p ys h => s _ _ h
theorem ks_dT {H : Hp} {a : Addr} {o : HO} {xs : List (List Key × V)} (n : H a = some (.dT xs)) : KS H (upd H a o) := fun _ _ h => upd_oth h (ne_of h n (by intro z; cases z))
theorem fr_ks {H H' H0 : Hp} (t : KS H H') : KS (fr H H0) (fr H' H0) := fun p ys h => fr_in (t _ _ (fr_at h).1) (fr_at h).2
theorem PlsAt.mono3 {H H' : Hp} {d : Addr} {A : List (Str × List Int)} (h : PlsAt H d A) (k : KS H H') (s : LS H H') : PlsAt H' d A := by
  obtain ⟨kvs, h1, h2⟩ := h
  exact ⟨kvs, k _ _ h1, h2.mono fun _ _ z => z.mono s⟩
theorem Cnt.mono3 {H H' : Hp} {v : V} {c : Nat × List (Str × List Int)} (h : Cnt H v c) (t : TS H H') (k : KS H H') (s : LS H H') : Cnt H' v c := by
  obtain ⟨a, pd, h1, h2, h3⟩ := h
  exact ⟨a, pd, h1, t _ _ h2, h3.mono3 k s⟩
theorem TabI.mono {D R D' R' : Hp} {tb : Addr} {tab : Tab} (h : TabI D R tb tab) (s : Same D D') (t : TS R R') (l : LS R R') : TabI D' R' tb tab := by
  obtain ⟨kvs, h1, h2, h3⟩ := h
  exact ⟨kvs, s _ _ h1, h2.mono fun _ _ z => z.mono s t l, h3⟩
theorem lens_notin {m : Int} {f : Str} : ∀ (ms : Makes), (∀ p ∈ ms, p.1 ≠ m) → look (lensOf ms) (m, f) = none
  | [], _ => rfl
  | p :: ms, h => by
    show look (lenRow p.1 p.2 ++ lensOf ms) (m, f) = none
    rw [look_append, lenRow_other (h p List.mem_cons_self)]
    exact lens_notin ms fun q hq => h q (List.mem_cons_of_mem _ hq)
theorem lenRow_len (m : Int) (d : Doc) : (lenRow m d).length ≤ d.length := by
  unfold lenRow
  rw [List.length_map]
  exact List.length_filterMap_le _ _
theorem lensOf_len : ∀ (ms : Makes), (∀ p ∈ ms, p.2.length ≤ 20) → (lensOf ms).length ≤ ms.length * 20
  | [], _ => Nat.le_refl _
  | p :: ms, h => by
    have h1 := lensOf_len ms fun q hq => h q (List.mem_cons_of_mem _ hq)
    have h2 := lenRow_len p.1 p.2
    have h3 := h p List.mem_cons_self
    show (lenRow p.1 p.2 ++ lensOf ms).length ≤ (ms.length + 1) * 20
    rw [List.length_append]
    omega
theorem lensOf_snoc (ms : Makes) (p : Int × Doc) : lensOf (ms ++ [p]) = lensOf ms ++ lenRow p.1 p.2 := by
  unfold lensOf
  rw [List.flatMap_append]
  simp
theorem lenRow_notin {m : Int} {d : Doc} {j : Nat} {c : Str × Nat × List (Str × List Int)} (nd : (d.map (·.1)).Nodup) (h : (counted d)[j]? = some c) : look ((lenRow m d).take j) (m, c.1) = none := look_none.mpr fun z => by
  have nk := (counted_keys d nd).1
  have e : (counted d).take (j + 1) = (counted d).take j ++ [c] := by rw [List.take_add_one, h]; rfl
  have nk2 : (((counted d).take (j + 1)).map (·.1)).Nodup := ((List.take_sublist _ _).map _).nodup nk
  rw [e, List.map_append] at nk2
  have z2 : c.1 ∈ ((counted d).take j).map (·.1) := by
    unfold lenRow at z
    rw [← List.map_take, List.map_map] at z
    obtain ⟨q, hq, eq⟩ := List.mem_map.mp z
    exact List.mem_map.mpr ⟨q, hq, congrArg Prod.snd eq⟩
  exact (List.nodup_append.mp nk2).2.2 _ z2 _ (by simp) rfl
/-! ### rules within a comprehension: the written part named -/
def rListK (K : PySem.W.Frag) : List V → Hp → VK → Prop := fun xs H Q => ∃ p ys, xs = [.ref p] ∧ (SqL K H p ys ∨ SqT K H p ys) ∧ ∀ l, H l = none → Q (.ref l) (upd H l (.lst ys))
theorem call_listK {X : Cx} {K : PySem.W.Frag} (h : X.K = K := by rfl) : CallR X (.type "list") (rListK K) := by
  subst h
  exact call_list_of
end KP
/-! The law's own table in a heap: dicts of dicts of dicts, each at a place of its own. -/
namespace KP
open PySem L2
inductive Pth where
  | root
  | fld (f : Str)
  | wrd (f w : Str)
  deriving DecidableEq
abbrev Own := Addr → Option Pth
def FK (own : Own) (kv : Key × V) (p : Str × Words) : Prop := kv.1 = Sum.inr p.1 ∧ ∃ wd, kv.2 = V.ref wd ∧ own wd = some (.fld p.1)
def WK (own : Own) (f : Str) (kv : Key × V) (p : Str × Rows) : Prop := kv.1 = Sum.inr p.1 ∧ ∃ rd, kv.2 = V.ref rd ∧ own rd = some (.wrd f p.1)
structure OT (own : Own) (G : Hp) (fd : Addr) (tab : Tab) : Prop where
  inj : ∀ a b p, own a = some p → own b = some p → a = b
  dom : ∀ a p, own a = some p → G a ≠ none
  root : own fd = some .root ∧ ∃ kf, G fd = some (.dK kf) ∧ Paired (FK own) kf tab
  flds : ∀ f T, look tab f = some T → ∃ wd kw, own wd = some (.fld f) ∧ G wd = some (.dK kw) ∧ Paired (WK own f) kw T
  wrds : ∀ f T w rows, look tab f = some T → look T w = some rows → ∃ rd kr, own rd = some (.wrd f w) ∧ G rd = some (.dK kr) ∧ KI (IL G) kr rows
  ofld : ∀ a f, own a = some (.fld f) → look tab f ≠ none
  owrd : ∀ a f w, own a = some (.wrd f w) → ∃ T, look tab f = some T ∧ look T w ≠ none
theorem upd_self {H : Hp} {a : Addr} {o : HO} (h : H a = some o) : upd H a o = H := by
  funext b
  by_cases e : b = a
  · rw [e, upd_same, h]
  · rw [upd_ne e]
section
variable {own : Own} {G : Hp} {fd : Addr} {tab : Tab}
theorem OT.mono {G' : Hp} (h : OT own G fd tab) (s : Same G G') : OT own G' fd tab where
  inj := h.inj
  dom := fun a p e z => by
    cases q : G a with
    | none => exact h.dom a p e q
    | some o => rw [s _ _ q] at z; cases z
  root := by
    obtain ⟨h1, kf, h2, h3⟩ := h.root
    exact ⟨h1, kf, s _ _ h2, h3⟩
  flds := fun f T e => by
    obtain ⟨wd, kw, h1, h2, h3⟩ := h.flds f T e
    exact ⟨wd, kw, h1, s _ _ h2, h3⟩
  wrds := fun f T w rows e1 e2 => by
    obtain ⟨rd, kr, h1, h2, h3⟩ := h.wrds f T w rows e1 e2
    exact ⟨rd, kr, h1, s _ _ h2, h3.mono fun _ _ z => z.mono (sLS s)⟩
  ofld := h.ofld
  owrd := h.owrd
def own1 (own : Own) (e : Addr) (p : Pth) : Own := fun a => if a = e then some p else own a
theorem own1_at {e : Addr} {p : Pth} : own1 own e p e = some p := by unfold own1; rw [if_pos rfl]
theorem own1_ne {e a : Addr} {p : Pth} (n : a ≠ e) : own1 own e p a = own a := by unfold own1; rw [if_neg n]
theorem own1_old {e a : Addr} {p q : Pth} (ne : own e = none) (h : own a = some q) : own1 own e p a = some q := by
  rw [own1_ne]
  · exact h
  · intro z; rw [z, ne] at h; cases h
theorem look_snoc {κ α : Type} [DecidableEq κ] {k j : κ} {a : α} {l : List (κ × α)} (h : look l k = none) : look (l ++ [(k, a)]) j = if j = k then some a else look l j := by
  rw [look_append]
  by_cases e : j = k
  · subst e
    rw [if_pos rfl, h]
    simp [look]
  · rw [if_neg e]
    have : look [(k, a)] j = none := look_neg (p := (k, a)) (r := []) fun z => e z.symm
    rw [this]
    cases look l j <;> rfl
/-- a new field -/
theorem OT.addField (h : OT own G fd tab) {f : Str} {e : Addr} {kf : List (Key × V)} (hf : look tab f = none) (hk : G fd = some (.dK kf)) (he : G e = some (.dK [])) (ne : own e = none) :
    OT (own1 own e (.fld f)) (upd G fd (.dK (kf ++ [(Sum.inr f, .ref e)]))) fd (tab ++ [(f, [])]) := by
  obtain ⟨r1, kf', r2, r3⟩ := h.root
  rw [hk] at r2
  cases r2
  have nfd : fd ≠ e := fun z => by rw [z, ne] at r1; cases r1
  have nf : ∀ a p, own a = some p → p ≠ .fld f := fun a p ha z => by rw [z] at ha; exact h.ofld a f ha hf
  refine ⟨fun a b p ha hb => ?_, fun a p ha => ?_, ⟨own1_old ne r1, _, upd_same, ?_⟩, fun g T hg => ?_, fun g T w rows hg hw => ?_, fun a g ha => ?_, fun a g w ha => ?_⟩
  · by_cases za : a = e
    · by_cases zb : b = e
      · rw [za, zb]
      · rw [za, own1_at] at ha
        rw [own1_ne zb] at hb
        exact absurd (Option.some.inj ha).symm (nf b p hb)
    · rw [own1_ne za] at ha
      by_cases zb : b = e
      · rw [zb, own1_at] at hb
        exact absurd (Option.some.inj hb).symm (nf a p ha)
      · rw [own1_ne zb] at hb
        exact h.inj a b p ha hb
  · by_cases za : a = fd
    · rw [za, upd_same]; intro z; cases z
    · rw [upd_ne za]
      by_cases ze : a = e
      · rw [ze, he]; intro z; cases z
      · rw [own1_ne ze] at ha; exact h.dom a p ha
  · refine pd_snoc ⟨rfl, e, rfl, own1_at⟩ (Paired.mapP r3 fun kv p z => ?_)
    obtain ⟨z1, wd, z2, z3⟩ := z
    exact ⟨z1, wd, z2, own1_old ne z3⟩
  · rw [look_snoc hf] at hg
    by_cases q : g = f
    · rw [if_pos q] at hg
      have eT : [] = T := Option.some.inj hg
      subst q eT
      exact ⟨e, [], own1_at, upd_oth he (Ne.symm nfd), .nil⟩
    · rw [if_neg q] at hg
      obtain ⟨wd, kw, h1, h2, h3⟩ := h.flds g T hg
      refine ⟨wd, kw, own1_old ne h1, upd_oth h2 (fun z => by rw [z, r1] at h1; cases h1), Paired.mapP h3 fun kv p z => ?_⟩
      obtain ⟨z1, rd, z2, z3⟩ := z
      exact ⟨z1, rd, z2, own1_old ne z3⟩
  · rw [look_snoc hf] at hg
    by_cases q : g = f
    · rw [if_pos q] at hg
      have eT : [] = T := Option.some.inj hg
      subst q eT
      cases hw
    · rw [if_neg q] at hg
      obtain ⟨rd, kr, h1, h2, h3⟩ := h.wrds g T w rows hg hw
      exact ⟨rd, kr, own1_old ne h1, upd_oth h2 (fun z => by rw [z, r1] at h1; cases h1), h3.mono fun _ _ z => z.mono (ls_dK hk)⟩
  · rw [look_snoc hf]
    by_cases q : g = f
    · rw [if_pos q]; intro z; cases z
    · rw [if_neg q]
      by_cases ze : a = e
      · rw [ze, own1_at] at ha
        injection ha with ha
        injection ha with ha
        exact absurd ha.symm q
      · rw [own1_ne ze] at ha; exact h.ofld a g ha
  · by_cases ze : a = e
    · rw [ze, own1_at] at ha; cases ha
    · rw [own1_ne ze] at ha
      obtain ⟨T, t1, t2⟩ := h.owrd a g w ha
      refine ⟨T, ?_, t2⟩
      rw [look_snoc hf, if_neg (fun z => by rw [z, hf] at t1; cases t1)]
      exact t1
/-- a new word -/
theorem OT.addWord (h : OT own G fd tab) {f w : Str} {T : Words} {e wd : Addr} {kw : List (Key × V)} (nd : (tab.map (·.1)).Nodup) (hf : look tab f = some T) (hw : look T w = none) (hwd : own wd = some (.fld f)) (hk : G wd = some (.dK kw)) (he : G e = some (.dK [])) (ne : own e = none) : OT (own1 own e (.wrd f w)) (upd G wd (.dK (kw ++ [(Sum.inr w, .ref e)]))) fd (alt tab f fun _ => T ++ [(w, [])]) := by
  obtain ⟨r1, kf, r2, r3⟩ := h.root
  obtain ⟨wd', kw', w1, w2, w3⟩ := h.flds f T hf
  cases h.inj _ _ _ w1 hwd
  rw [hk] at w2
  cases w2
  have nwe : wd ≠ e := fun z => by rw [z, ne] at hwd; cases hwd
  have nwf : wd ≠ fd := fun z => by rw [z, r1] at hwd; cases hwd
  have nf : ∀ a p, own a = some p → p ≠ .wrd f w := fun a p ha z => by
    rw [z] at ha
    obtain ⟨T2, t1, t2⟩ := h.owrd a f w ha
    rw [hf] at t1
    cases t1
    exact t2 hw
  refine ⟨fun a b p ha hb => ?_, fun a p ha => ?_, ⟨own1_old ne r1, kf, upd_oth r2 (Ne.symm nwf), ?_⟩, fun g T' hg => ?_, fun g T' w' rows hg hw' => ?_, fun a g ha => ?_, fun a g w' ha => ?_⟩
  · by_cases za : a = e
    · by_cases zb : b = e
      · rw [za, zb]
      · rw [za, own1_at] at ha
        rw [own1_ne zb] at hb
        exact absurd (Option.some.inj ha).symm (nf b p hb)
    · rw [own1_ne za] at ha
      by_cases zb : b = e
      · rw [zb, own1_at] at hb
        exact absurd (Option.some.inj hb).symm (nf a p ha)
      · rw [own1_ne zb] at hb
        exact h.inj a b p ha hb
  · by_cases za : a = wd
    · rw [za, upd_same]; intro z; cases z
    · rw [upd_ne za]
      by_cases ze : a = e
      · rw [ze, he]; intro z; cases z
      · rw [own1_ne ze] at ha; exact h.dom a p ha
  · rw [alt_map nd hf]
    clear w3 hk r2
    induction r3 with
    | nil => exact .nil
    | @cons kv p kf tab r _ ih =>
      rw [List.map_cons]
      obtain ⟨z1, wd0, z2, z3⟩ := r
      have hrest : Paired (FK (own1 own e (.wrd f w))) kf (tab.map fun p => if p.1 = f then (p.1, T ++ [(w, [])]) else p) := by
        clear ih hf nd h
        rename_i t
        induction t with
        | nil => exact .nil
        | @cons kv' p' kf' tab' r' _ ih' =>
          rw [List.map_cons]
          obtain ⟨y1, wd1, y2, y3⟩ := r'
          refine .cons ?_ ih'
          by_cases q : p'.1 = f
          · rw [if_pos q]; exact ⟨y1, wd1, y2, own1_old ne y3⟩
          · rw [if_neg q]; exact ⟨y1, wd1, y2, own1_old ne y3⟩
      refine .cons ?_ hrest
      by_cases q : p.1 = f
      · rw [if_pos q]; exact ⟨z1, wd0, z2, own1_old ne z3⟩
      · rw [if_neg q]; exact ⟨z1, wd0, z2, own1_old ne z3⟩
  · rw [look_alt] at hg
    by_cases q : g = f
    · rw [if_pos q] at hg
      have eT : T ++ [(w, [])] = T' := Option.some.inj hg
      subst q eT
      refine ⟨wd, _, own1_old ne hwd, upd_same, pd_snoc ⟨rfl, e, rfl, own1_at⟩ (Paired.mapP w3 fun kv p z => ?_)⟩
      obtain ⟨z1, rd, z2, z3⟩ := z
      exact ⟨z1, rd, z2, own1_old ne z3⟩
    · rw [if_neg q] at hg
      obtain ⟨wd2, kw2, h1, h2, h3⟩ := h.flds g T' hg
      refine ⟨wd2, kw2, own1_old ne h1, upd_oth h2 (fun z => by rw [z, hwd] at h1; injection h1 with h1; injection h1 with h1; exact q h1.symm), Paired.mapP h3 fun kv p z => ?_⟩
      obtain ⟨z1, rd, z2, z3⟩ := z
      exact ⟨z1, rd, z2, own1_old ne z3⟩
  · rw [look_alt] at hg
    have old : ∀ {g' : Str} {T2 : Words} {w2 : Str} {rows2 : Rows}, look tab g' = some T2 → look T2 w2 = some rows2 → ∃ rd kr, own1 own e (.wrd f w) rd = some (.wrd g' w2) ∧ (upd G wd (.dK (kw ++ [(Sum.inr w, .ref e)]))) rd = some (.dK kr) ∧ KI (IL (upd G wd (.dK (kw ++ [(Sum.inr w, .ref e)])))) kr rows2 := fun {g' T2 w2 rows2} a1 a2 => by
      obtain ⟨rd, kr, h1, h2, h3⟩ := h.wrds g' T2 w2 rows2 a1 a2
      exact ⟨rd, kr, own1_old ne h1, upd_oth h2 (fun z => by rw [z, hwd] at h1; cases h1), h3.mono fun _ _ z => z.mono (ls_dK hk)⟩
    by_cases q : g = f
    · rw [if_pos q] at hg
      have eT : T ++ [(w, [])] = T' := Option.some.inj hg
      subst q eT
      rw [look_snoc hw] at hw'
      by_cases qw : w' = w
      · rw [if_pos qw] at hw'
        have eR : [] = rows := Option.some.inj hw'
        subst qw eR
        exact ⟨e, [], own1_at, upd_oth he (Ne.symm nwe), .nil⟩
      · rw [if_neg qw] at hw'
        exact old hf hw'
    · rw [if_neg q] at hg
      exact old hg hw'
  · by_cases ze : a = e
    · rw [ze, own1_at] at ha; cases ha
    · rw [own1_ne ze] at ha
      rw [look_alt]
      by_cases q : g = f
      · rw [if_pos q]; intro z; cases z
      · rw [if_neg q]; exact h.ofld a g ha
  · rw [look_alt]
    by_cases ze : a = e
    · rw [ze, own1_at] at ha
      injection ha with ha
      injection ha with ha1 ha2
      rw [if_pos ha1.symm]
      refine ⟨_, rfl, ?_⟩
      rw [look_snoc hw, if_pos ha2.symm]
      intro z; cases z
    · rw [own1_ne ze] at ha
      obtain ⟨T2, t1, t2⟩ := h.owrd a g w' ha
      by_cases q : g = f
      · rw [if_pos q]
        rw [q, hf] at t1
        cases t1
        refine ⟨_, rfl, ?_⟩
        rw [look_snoc hw]
        by_cases qw : w' = w
        · rw [if_pos qw]; intro z; cases z
        · rw [if_neg qw]; exact t2
      · rw [if_neg q]; exact ⟨T2, t1, t2⟩
/-- the rows of a word change -/
theorem OT.setRow (h : OT own G fd tab) {f w : Str} {T : Words} {rows rows' : Rows} {rd : Addr} {kr kr' : List (Key × V)} (nd : (tab.map (·.1)).Nodup) (nT : (T.map (·.1)).Nodup) (hf : look tab f = some T) (hw : look T w = some rows) (hrd : own rd = some (.wrd f w)) (hk : G rd = some (.dK kr))
    (hr : KI (IL (upd G rd (.dK kr'))) kr' rows') : OT own (upd G rd (.dK kr')) fd (alt tab f fun _ => alt T w fun _ => rows') := by
  obtain ⟨r1, kf, r2, r3⟩ := h.root
  have nrf : rd ≠ fd := fun z => by rw [z, r1] at hrd; cases hrd
  have keysame : ∀ {own : Own} {kf : List (Key × V)} {tab : Tab} {T1 : Words}, Paired (FK own) kf tab → Paired (FK own) kf (tab.map fun p => if p.1 = f then (p.1, T1) else p) := fun {own kf tab T1} t => by
    induction t with
    | nil => exact .nil
    | @cons kv' p' kf' tab' r' _ ih' =>
      rw [List.map_cons]
      refine .cons ?_ ih'
      by_cases q : p'.1 = f
      · rw [if_pos q]; exact r'
      · rw [if_neg q]; exact r'
  have keysameW : ∀ {own : Own} {kw : List (Key × V)} {T : Words} {R1 : Rows}, Paired (WK own f) kw T → Paired (WK own f) kw (T.map fun p => if p.1 = w then (p.1, R1) else p) := fun {own kw T R1} t => by
    induction t with
    | nil => exact .nil
    | @cons kv' p' kf' tab' r' _ ih' =>
      rw [List.map_cons]
      refine .cons ?_ ih'
      by_cases q : p'.1 = w
      · rw [if_pos q]; exact r'
      · rw [if_neg q]; exact r'
  refine ⟨h.inj, fun a p ha => ?_, ⟨r1, kf, upd_oth r2 (Ne.symm nrf), ?_⟩, fun g T' hg => ?_, fun g T' w' rows2 hg hw' => ?_, fun a g ha => ?_, fun a g w' ha => ?_⟩
  · by_cases za : a = rd
    · rw [za, upd_same]; intro z; cases z
    · rw [upd_ne za]; exact h.dom a p ha
  · rw [alt_map nd hf]
    exact keysame r3
  · rw [look_alt] at hg
    by_cases q : g = f
    · rw [if_pos q] at hg
      have eT : (alt T w fun _ => rows') = T' := Option.some.inj hg
      subst q eT
      obtain ⟨wd, kw, h1, h2, h3⟩ := h.flds g T hf
      refine ⟨wd, kw, h1, upd_oth h2 (fun z => by rw [z, hrd] at h1; cases h1), ?_⟩
      rw [alt_map nT hw]
      exact keysameW h3
    · rw [if_neg q] at hg
      obtain ⟨wd2, kw2, h1, h2, h3⟩ := h.flds g T' hg
      exact ⟨wd2, kw2, h1, upd_oth h2 (fun z => by rw [z, hrd] at h1; cases h1), h3⟩
  · rw [look_alt] at hg
    have old : ∀ {g' : Str} {T2 : Words} {w2 : Str} {rows3 : Rows}, look tab g' = some T2 → look T2 w2 = some rows3 → ¬ (g' = f ∧ w2 = w) → ∃ rd2 kr2, own rd2 = some (.wrd g' w2) ∧ (upd G rd (.dK kr')) rd2 = some (.dK kr2) ∧ KI (IL (upd G rd (.dK kr'))) kr2 rows3 := fun {g' T2 w2 rows3} a1 a2 a3 => by
      obtain ⟨rd2, kr2, h1, h2, h3⟩ := h.wrds g' T2 w2 rows3 a1 a2
      refine ⟨rd2, kr2, h1, upd_oth h2 (fun z => ?_), h3.mono fun _ _ z => z.mono (ls_dK hk)⟩
      rw [z, hrd] at h1
      injection h1 with h1
      injection h1 with h1 h1'
      exact a3 ⟨h1.symm, h1'.symm⟩
    by_cases q : g = f
    · rw [if_pos q] at hg
      have eT : (alt T w fun _ => rows') = T' := Option.some.inj hg
      subst q eT
      rw [look_alt] at hw'
      by_cases qw : w' = w
      · rw [if_pos qw] at hw'
        have eR : rows' = rows2 := Option.some.inj hw'
        subst qw eR
        exact ⟨rd, kr', hrd, upd_same, hr⟩
      · rw [if_neg qw] at hw'
        exact old hf hw' fun z => qw z.2
    · rw [if_neg q] at hg
      exact old hg hw' fun z => q z.1
  · rw [look_alt]
    by_cases q : g = f
    · rw [if_pos q]; intro z; cases z
    · rw [if_neg q]; exact h.ofld a g ha
  · rw [look_alt]
    obtain ⟨T2, t1, t2⟩ := h.owrd a g w' ha
    by_cases q : g = f
    · rw [if_pos q]
      rw [q, hf] at t1
      cases t1
      refine ⟨_, rfl, ?_⟩
      rw [look_alt]
      by_cases qw : w' = w
      · rw [if_pos qw]; intro z; cases z
      · rw [if_neg qw]; exact t2
    · rw [if_neg q]; exact ⟨T2, t1, t2⟩
end
/-! ### sizes and keys -/
theorem rowsAt_evL {m a : Int} {f w : Str} {tab : Tab} (g v : Str) : rowsAt (evL m f tab (a, w)) g v = if g = f ∧ v = w then alt (rowsAt tab f w) m (fun q => q.getD [] ++ [a]) else rowsAt tab g v := by
  unfold rowsAt evL addL
  rw [look_alt]
  by_cases q : g = f
  · rw [if_pos q, Option.getD_some, look_alt]
    by_cases qv : v = w
    · rw [if_pos qv, if_pos ⟨q, qv⟩]; rfl
    · rw [if_neg qv, if_neg (fun z => qv z.2), q]
  · rw [if_neg q, if_neg (fun z => q z.1)]
def Nd3 (tab : Tab) : Prop := TabNd tab ∧ ∀ f w, ((rowsAt tab f w).map (·.1)).Nodup
def SZ3 (tab : Tab) (B : Nat) : Prop := SZ tab B ∧ ∀ f w m, ((look (rowsAt tab f w) m).getD []).length ≤ B
theorem Nd3.nil : Nd3 [] := ⟨TabNd.nil, fun _ _ => List.nodup_nil⟩
theorem SZ3.nil : SZ3 [] 0 := ⟨SZ.nil, fun _ _ _ => Nat.le_refl _⟩
theorem SZ3.mono {tab : Tab} {B B' : Nat} (h : SZ3 tab B) (l : B ≤ B') : SZ3 tab B' := ⟨h.1.mono l, fun f w m => Nat.le_trans (h.2 f w m) l⟩
theorem evL_nd {m a : Int} {f w : Str} {tab : Tab} (h : Nd3 tab) : Nd3 (evL m f tab (a, w)) := by
  refine ⟨⟨alt_nodup h.1.1, fun g => ?_⟩, fun g v => ?_⟩
  · unfold evL addL
    rw [look_alt]
    by_cases q : g = f
    · rw [if_pos q, Option.getD_some]; exact alt_nodup (h.1.2 f)
    · rw [if_neg q]; exact h.1.2 g
  · rw [rowsAt_evL]
    by_cases q : g = f ∧ v = w
    · rw [if_pos q]; exact alt_nodup (h.2 f w)
    · rw [if_neg q]; exact h.2 g v
theorem evL_sz {m a : Int} {f w : Str} {tab : Tab} {B : Nat} (h : SZ3 tab B) : SZ3 (evL m f tab (a, w)) (B + 1) := by
  refine ⟨⟨?_, fun g => ⟨?_, fun v => ?_⟩⟩, fun g v n => ?_⟩
  · have h1 := alt_len f (fun o => addL m (o.getD []) (a, w)) tab
    have h2 := h.1.1
    show (alt tab f fun o => addL m (o.getD []) (a, w)).length ≤ B + 1
    omega
  · unfold evL
    rw [look_alt]
    by_cases q : g = f
    · rw [if_pos q, Option.getD_some]
      have h1 := alt_len w (fun o : Option Rows => alt (o.getD []) m fun q => q.getD [] ++ [a]) ((look tab f).getD [])
      have h2 := (h.1.2 f).1
      exact Nat.le_trans h1 (Nat.succ_le_succ h2)
    · rw [if_neg q]
      have h2 := (h.1.2 g).1
      omega
  · rw [rowsAt_evL]
    by_cases q : g = f ∧ v = w
    · rw [if_pos q]
      have h1 := alt_len m (fun q : Option (List Int) => q.getD [] ++ [a]) (rowsAt tab f w)
      have h2 := (h.1.2 f).2 w
      omega
    · rw [if_neg q]
      have h2 := (h.1.2 g).2 v
      omega
  · rw [rowsAt_evL]
    by_cases q : g = f ∧ v = w
    · rw [if_pos q, look_alt]
      by_cases qn : n = m
      · rw [if_pos qn, Option.getD_some, List.length_append]
        have h2 := h.2 f w m
        simp only [List.length_singleton]
        omega
      · rw [if_neg qn]
        have h2 := h.2 f w n
        omega
    · rw [if_neg q]
      have h2 := h.2 g v n
      omega
/-! ### the finished table -/
def RowsL (H : Hp) (v : V) (rows : Rows) : Prop := ∃ rd kr, v = .ref rd ∧ H rd = some (.dK kr) ∧ KI (IL H) kr rows
def WordsL (H : Hp) (v : V) (T : Words) : Prop := ∃ wd kw, v = .ref wd ∧ H wd = some (.dK kw) ∧ KD (RowsL H) kw T
def LTab (H : Hp) (fd : Addr) (tab : Tab) : Prop := ∃ kf, H fd = some (.dK kf) ∧ KD (WordsL H) kf tab
theorem RowsL.mono {H H' : Hp} {v : V} {rows : Rows} (h : RowsL H v rows) (s : Same H H') : RowsL H' v rows := by
  obtain ⟨a, b, h1, h2, h3⟩ := h
  exact ⟨a, b, h1, s _ _ h2, h3.mono fun _ _ z => z.mono (sLS s)⟩
theorem WordsL.mono {H H' : Hp} {v : V} {T : Words} (h : WordsL H v T) (s : Same H H') : WordsL H' v T := by
  obtain ⟨a, b, h1, h2, h3⟩ := h
  exact ⟨a, b, h1, s _ _ h2, h3.mono fun _ _ z => z.mono s⟩
theorem LTab.mono {H H' : Hp} {fd : Addr} {tab : Tab} (h : LTab H fd tab) (s : Same H H') : LTab H' fd tab := by
  obtain ⟨b, h2, h3⟩ := h
  exact ⟨b, s _ _ h2, h3.mono fun _ _ z => z.mono s⟩
theorem pd_mem {α β : Type} {R S : α → β → Prop} {xs : List α} {ys : List β} (h : Paired R xs ys) (f : ∀ x y, y ∈ ys → R x y → S x y) : Paired S xs ys := by
  induction h with
  | nil => exact .nil
  | cons r _ ih => exact .cons (f _ _ List.mem_cons_self r) (ih fun x y hy => f x y (List.mem_cons_of_mem _ hy))
theorem OT.done {own : Own} {G : Hp} {fd : Addr} {tab : Tab} (h : OT own G fd tab) (nd : TabNd tab) : LTab G fd tab := by
  obtain ⟨r1, kf, r2, r3⟩ := h.root
  refine ⟨kf, r2, pd_mem r3 fun kv p hp r => ?_⟩
  obtain ⟨z1, wd, z2, z3⟩ := r
  have hl : look tab p.1 = some p.2 := look_of_mem nd.1 hp
  obtain ⟨wd', kw, h1, h2, h3⟩ := h.flds _ _ hl
  cases h.inj _ _ _ z3 h1
  refine ⟨z1, wd, kw, z2, h2, pd_mem h3 fun kv2 p2 hp2 r2 => ?_⟩
  obtain ⟨y1, rd, y2, y3⟩ := r2
  have nT : (p.2.map (·.1)).Nodup := by
    have := nd.2 p.1
    rw [hl] at this
    exact this
  have hl2 : look p.2 p2.1 = some p2.2 := look_of_mem nT hp2
  obtain ⟨rd', kr, g1, g2, g3⟩ := h.wrds _ _ _ _ hl hl2
  cases h.inj _ _ _ y3 g1
  exact ⟨y1, rd, kr, y2, g2, g3⟩
end KP
namespace KP
open PySem L2
section
variable {P : Program} {w : World} {K : PySem.W.Frag} {mg : Str → Option Value} {base : Heap}
/-! words_of -/
def spWordsOf : Sp := fun vs H Q _ => ∃ t : Str, vs = [.str t] ∧ t.cps.size ≤ 1000 ∧ ∀ (l : Addr) (xs : List V) (H' : Hp), Same H H' → H l = none → H' l = some (.lst xs) → Paired (WordTup H') xs (wordsL t) → Q (.ref l) H'
theorem scWordsOf : FnScope ["text", "found", "word", "place", "sign", "one"] ["text"] (defScope sWordsOf) := ⟨rfl, rfl, rfl, by decide +kernel, rfl, by decide +kernel, by decide +kernel⟩
theorem ok_wordsOf {f C fl : Addr} {fd fdl : FuncData} (F : Fun K "words_of" "words_of" sWordsOf f fd) (T : Txt K mg C) (L : DefAt K mg "lowered" sLowered ["sign"] fl fdl) : FnOk P w K mg base CX0 2 f fd ["text"] spWordsOf := by
  have GL : FnOk P w K mg base CX0 1 fl fdl ["sign"] spLowered := ok_lowered L.fn T
  refine F.ok scWordsOf (fun vs H Q E h => ?_) (fun cdv A outer s H vs Q E hr h => ?_)
  · obtain ⟨c, rfl, _⟩ := h
    rfl
  · obtain ⟨t, rfl, hz, k⟩ := h
    refine ⟨_, pss_cons (ps_set (i := 1) scWordsOf.nd rfl (Or.inl rfl) (pe_lst pa_nil))
      (pss_cons (ps_set (i := 2) scWordsOf.nd rfl (Or.inl rfl) pe_str)
      (pss_cons (ps_for PassesOwn.never rfl (pi_enumS rfl T.enumerate (pa_cons (pe_op op_add_str (pv 0) pe_str) pa_nil))
          (pg_tup rfl (pgs_cons (pg_name (i := 3) scWordsOf.nd rfl (Or.inl rfl)) (pgs_cons (pg_name (i := 4) scWordsOf.nd rfl (Or.inl rfl)) pgs_nil)))
        (pss_cons (ps_set (i := 5) scWordsOf.nd rfl (Or.inl rfl) (pe_call GL hr rfl L.at_ L.fn.kp L.bd .nil pass0 (pa_cons (pv 4) pa_nil)))
        (pss_cons (ps_if (PW.pt (pw_and (pt_cmpR op_eq (pv 5) pe_str (nomark _)) (pw_and1 (pt_cmpR op_ne (pv 2) pe_str (nomark _)))))
          (pss_cons (ps_expr (pe_bm PySem.F.plainAttrs_list PySem.F.slot_list_append PySem.F.type_list_append mt_append (pv 1)
              (pa_cons (pe_tup (pa_cons (pv 2) (pa_cons (pe_op op_sub (pv 3) (pe_callB call_len_str (by rfl) T.len PySem.boot_len (pa_cons (pv 2) pa_nil))) (pa_cons (pv 3) pa_nil)))) pa_nil)))
            (pss_one (ps_set (i := 2) scWordsOf.nd rfl (Or.inl rfl) pe_str))) pss_nil)
        (pss_one (ps_set (i := 2) scWordsOf.nd rfl (Or.inl rfl) (pe_op op_add_str (pv 2) (pv 5)))))))
      (pss_one (ps_ret (pv 1))))), ?_⟩
    refine ⟨Nat.zero_le _, fun l hl => ?_⟩
    have hsz : (t ++ (" " : Str)).cps.size = t.cps.size + 1 := app_blank_size
    refine ⟨_, rfl, _, _, rfl, rfl, ?_, _, rfl, for_it walk_enumS
      (fun i σ H2 => ∃ (v3 v4 v5 : Option V) (xs : List V), σ = [some (.str t), some (.ref l), some (.str (runW t i).2), v3, v4, v5] ∧ Same H H2 ∧ H2 l = some (.lst xs) ∧ Paired (WordTup H2) xs (runW t i).1)
      ⟨_, _, _, [], by rw [runW_zero, ← empty_str]; rfl, same_new hl, upd_same, .nil⟩ (fun _ _ _ _ _ => trivial) ?_ ?_⟩
    · show t.cps.size + ((" " : Str)).cps.size ≤ sizeLine
      rw [blank_str]
      exact size_line (by show t.cps.size + 1 ≤ _; omega)
    · rintro i x σ H2 H3 hi ⟨v3, v4, v5, xs, rfl, sm, hL, pd⟩ ⟨p, c, rfl, hp, rfl, hc⟩
      have hc' := app_blank_get hc
      have hlen := runW_len t i
      have hi' : i ≤ 1000 := by omega
      refine ⟨p, _, rfl, SqT.of upd_same, rfl, _, _, rfl, _, _, rfl, rfl, ?_⟩
      refine ⟨_, rfl, c, rfl, ?_⟩
      have hL3 : upd H2 p (.tup [.int (i : Nat), .str ⟨#[c]⟩]) l = some (.lst xs) := upd_old hL hp
      have sm3 : Same H (upd H2 p (.tup [.int (i : Nat), .str ⟨#[c]⟩])) := sm.trans (same_new hp)
      refine ⟨_, rfl, rfl, _, rfl, ?_⟩
      cases e : low c with
      | some d =>
        have e1 : lowS c = ⟨#[d]⟩ := by unfold lowS; rw [e]
        rw [e1]
        have e2 : decide (V.str ⟨#[d]⟩ = V.str ("" : Str)) = false := decide_eq_false fun z => by
          rw [empty_str] at z
          injection z with z
          injection z with z
          exact absurd (congrArg Array.size z) (by simp)
        rw [e2]
        refine iteF (iteF ?_)
        refine ⟨_, rfl, _, rfl, _, _, rfl, rfl, size_line (by show (runW t i).2.cps.size + 1 ≤ _; omega), ?_⟩
        refine ⟨some (.int i), some (.str ⟨#[c]⟩), some (.str ⟨#[d]⟩), xs, ?_, sm3, hL3, ?_⟩
        · rw [runW_succ hc']
          unfold stepW
          rw [e]
          rfl
        · rw [runW_succ hc']
          unfold stepW
          rw [e]
          exact Paired.mapP pd fun _ _ z => z.mono (ts_new hp)
      | none =>
        have e1 : lowS c = eS := by unfold lowS; rw [e]
        rw [e1]
        have e2 : decide (V.str eS = V.str ("" : Str)) = true := decide_eq_true (by rw [empty_str])
        rw [e2]
        refine iteT ⟨_, rfl, rfl, _, rfl, ?_⟩
        by_cases hw : (runW t i).2 = eS
        · have e3 : (!decide (V.str (runW t i).2 = V.str ("" : Str))) = false := by rw [hw, empty_str]; simp
          rw [e3]
          refine iteF ?_
          refine ⟨_, rfl, _, rfl, _, _, rfl, rfl, size_line (by show (runW t i).2.cps.size + 0 ≤ _; omega), ?_⟩
          refine ⟨some (.int i), some (.str ⟨#[c]⟩), some (.str eS), xs, ?_, sm3, hL3, ?_⟩
          · rw [runW_succ hc']
            unfold stepW
            rw [e, if_pos hw, hw]
            rfl
          · rw [runW_succ hc']
            unfold stepW
            rw [e, if_pos hw]
            exact Paired.mapP pd fun _ _ z => z.mono (ts_new hp)
        · have e3 : (!decide (V.str (runW t i).2 = V.str ("" : Str))) = true := by
            rw [empty_str]
            have : ¬ V.str (runW t i).2 = V.str eS := fun z => hw (by injection z)
            rw [decide_eq_false this]; rfl
          rw [e3]
          refine iteT ?_
          refine ⟨_, rfl, .inl ⟨rfl, _, SqL.of hL3⟩, _, rfl, _, rfl, _, rfl, _, rfl, size_line (by show (runW t i).2.cps.size ≤ _; omega), _, _, rfl, rfl, _, rfl, (by show 3 ≤ sizeLine; decide), fun q hq => ?_⟩
          have hLq := upd_old (o := HO.tup [.str (runW t i).2, .int ((i : Int) - ((runW t i).2.cps.size : Nat)), .int (i : Nat)]) hL3 hq
          refine ⟨l, _, _, rfl, rfl, hLq, size_lt (by rw [pd_len pd]; omega), ?_⟩
          refine ⟨_, rfl, _, rfl, _, _, rfl, rfl, by decide +kernel, ?_⟩
          have smq : Same H (upd (upd H2 p (.tup [.int (i : Nat), .str ⟨#[c]⟩])) q (.tup [.str (runW t i).2, .int ((i : Int) - ((runW t i).2.cps.size : Nat)), .int (i : Nat)])) := sm3.trans (same_new hq)
          refine ⟨some (.int i), some (.str ⟨#[c]⟩), some (.str eS), _, ?_, same_at smq hl, upd_same, ?_⟩
          · rw [runW_succ hc']
            unfold stepW
            rw [e, if_neg hw]
            rfl
          · rw [runW_succ hc']
            unfold stepW
            rw [e, if_neg hw]
            refine pd_snoc ⟨q, _, _, rfl, upd_oth upd_same (ne_of upd_same hLq (by intro z; cases z))⟩ (Paired.mapP pd fun _ _ z => ?_)
            exact z.mono (TS.trans (ts_new hp) (TS.trans (ts_new hq) (ts_lst hLq)))
    · rintro σ H2 ⟨v3, v4, v5, xs, rfl, sm, hL, pd⟩
      rw [hsz] at pd
      exact ⟨_, rfl, k l xs H2 sm hl hL pd⟩
end
end KP
namespace KP
open PySem L2
section
variable {P : Program} {w : World} {K : PySem.W.Frag} {mg : Str → Option Value} {base : Heap}
/-! is_name -/
def spIsName : Sp := fun vs H Q _ => ∃ t : Str, vs = [.str t] ∧ IsNm t ∧ ∀ H', Same H H' → Q (.bl true) H'
theorem scIsName : FnScope ["text", "sign"] ["text"] (defScope sIsName) := ⟨rfl, rfl, rfl, by decide +kernel, rfl, by decide +kernel, by decide +kernel⟩
theorem ok_isName {f C : Addr} {fd : FuncData} (F : Fun K "is_name" "is_name" sIsName f fd) (T : Txt K mg C) : FnOk P w K mg base CX0 1 f fd ["text"] spIsName := by
  refine F.ok scIsName (fun vs H Q E h => ?_) (fun cdv A outer s H vs Q E hr h => ?_)
  · obtain ⟨c, rfl, _⟩ := h
    rfl
  · obtain ⟨t, rfl, ⟨h0, h12, hc⟩, k⟩ := h
    obtain ⟨tl, hl⟩ := T.letters
    refine ⟨_, pss_one (ps_ret (pe_and (pe_chain op_lt op_le pe_int (pe_callB call_len_str (by rfl) T.len PySem.boot_len (pa_cons (pv 0) pa_nil)) pe_int)
      (pe_one (pe_callB (cr_all rfl) (by rfl) T.all (by decide +kernel) (pa_cons
        (pe_lc (own := [("sign", 1)]) (g := gName 1) (tt := tYes) rfl scIsName.nd (pi_str (pv 0)) (blkOk_by (N := ["text", "sign"]) (sc := defScope sIsName) (by decide +kernel))
          (fun _ _ _ _ _ => pg_name (i := 1) scIsName.nd rfl (Or.inl rfl)) (fun _ _ _ _ _ => pts_nil) (fun _ _ _ _ _ => pe_cmpR op_in_sign (pv 1) (pe_glob rfl hl rvS) rfl)) pa_nil))))), ?_⟩
    refine ⟨_, rfl, t, rfl, size_line (by show t.cps.size ≤ _; omega), _, _, rfl, rfl, _, rfl, ?_⟩
    have e1 : decide ((0 : Int) < (t.length : Nat)) = true := decide_eq_true (by show (0 : Int) < (t.cps.size : Nat); omega)
    rw [e1]
    refine iteT ⟨_, _, rfl, rfl, _, rfl, ?_⟩
    have e2 : decide (((t.length : Nat) : Int) ≤ 12) = true := decide_eq_true (by show ((t.cps.size : Nat) : Int) ≤ 12; omega)
    rw [e2]
    refine iteT ?_
    refine ⟨_, rfl, t, rfl, fun D hD => lc_it walk_str (fun i H2 => Same H H2 ∧ H2 D = some (.lst ((List.replicate i true).map V.bl)))
      ⟨same_new hD, upd_same⟩ (fun _ _ _ _ => trivial) ?_ ?_⟩
    · rintro i x H2 H3 hi ⟨sm, hL⟩ ⟨rfl, c, hcx, rfl⟩
      refine ⟨rfl, _, rfl, c, _, rfl, rfl, _, hL, size_lt (by simp; omega), same_at sm hD, ?_⟩
      have hm : c ∈ t.cps.toList := by
        rw [← Array.getElem?_toList] at hcx
        exact List.mem_of_getElem? hcx
      have e3 : decide (c ∈ (("abcdefghijklmnopqrstuvwxyz" : Str)).cps.toList) = true := decide_eq_true (mem_letters.mpr (hc c hm))
      rw [e3, upd_same, List.replicate_succ']
      simp
    · rintro H2 ⟨sm, hL⟩
      refine ⟨D, _, rfl, SqL.of hL, ?_⟩
      have e4 : ((List.replicate t.cps.size true).all id) = true := by simp
      rw [e4]
      exact k H2 sm
end
end KP
namespace KP
open PySem L2
section
variable {P : Program} {w : World} {K : PySem.W.Frag} {mg : Str → Option Value} {base : Heap}
/-! look_at_document -/
def spLookDoc : Sp := fun vs H Q _ => ∃ (a : Addr) (doc : Doc), vs = [.ref a] ∧ DocAt H a doc ∧ DocOk doc ∧ ∀ H', Same H H' → Q .non H'
theorem scLookDoc : FnScope ["document", "last", "place", "field", "text"] ["document"] (defScope sLookDoc) := ⟨rfl, rfl, rfl, by decide +kernel, rfl, by decide +kernel, by decide +kernel⟩
theorem ok_lookDoc {f C fn : Addr} {fd fdn : FuncData} (F : Fun K "look_at_document" "look_at_document" sLookDoc f fd) (T : Txt K mg C) (L : DefAt K mg "is_name" sIsName ["text"] fn fdn) : FnOk P w K mg base CX0 2 f fd ["document"] spLookDoc := by
  have GN : FnOk P w K mg base CX0 1 fn fdn ["text"] spIsName := ok_isName L.fn T
  refine F.ok scLookDoc (fun vs H Q E h => ?_) (fun cdv A outer s H vs Q E hr h => ?_)
  · obtain ⟨a, d, rfl, _⟩ := h
    rfl
  · obtain ⟨a, doc, rfl, ⟨xs, hA, pd⟩, dk, k⟩ := h
    refine ⟨_, pss_cons (ps_set (i := 1) scLookDoc.nd rfl (Or.inl rfl) pe_str)
      (pss_one (ps_for PassesOwn.never rfl (pi_enum rfl T.enumerate (pa_cons (pv 0) pa_nil))
          (pg_tup rfl (pgs_cons (pg_name (i := 2) scLookDoc.nd rfl (Or.inl rfl)) (pgs_cons (pg_tup rfl (pgs_cons (pg_name (i := 3) scLookDoc.nd rfl (Or.inl rfl)) (pgs_cons (pg_name (i := 4) scLookDoc.nd rfl (Or.inl rfl)) pgs_nil))) pgs_nil)))
        (pss_cons (ps_if (PW.pt (pw_or (pt_not (pt_val (pe_call GN hr rfl L.at_ L.fn.kp L.bd .nil pass0 (pa_cons (pv 3) pa_nil)))) (pw_or1 (pt_cmpR op_le_str (pv 3) (pv 1) (nomark _)))))
          pss_never pss_nil)
        (pss_one (ps_set (i := 1) scLookDoc.nd rfl (Or.inl rfl) (pv 3)))))), ?_⟩
    refine ⟨_, rfl, a, xs, rfl, SqL.of hA, for_it walk_enum
      (fun i σ H2 => ∃ (ls : Str) (v2 v3 v4 : Option V), σ = [some (.ref a), some (.str ls), v2, v3, v4] ∧ Same H H2 ∧ ∀ j ft, doc[j]? = some ft → i ≤ j → ltS ls ft.1)
      ⟨"", none, none, none, rfl, Same.refl H, fun j ft e _ => ?_⟩ (fun i σ H2 _ ⟨_, _, _, _, _, sm, _⟩ => SqL.of (sm _ _ hA)) ?_ ?_⟩
    · have h0 := (dk.nm ft (List.mem_of_getElem? e)).1
      show (("" : Str)).cps.toList < ft.1.cps.toList
      rw [empty_str]
      rcases hq : ft.1.cps.toList with _ | ⟨c, r⟩
      · exfalso
        have : ft.1.cps.toList.length = 0 := by rw [hq]; rfl
        rw [Array.length_toList] at this
        omega
      · exact List.Lex.nil
    · rintro i x σ H2 H3 hi ⟨ls, v2, v3, v4, rfl, sm, hls⟩ ⟨p, y, z, rfl, hp, rfl, e1, e2⟩
      cases e1
      obtain ⟨ft, hft, q, rfl, hq⟩ := pd_get pd e2
      have hq3 : ∀ {o}, upd H2 p o q = some (.tup [.str ft.1, .str ft.2]) := fun {o} => upd_old (sm _ _ hq) hp
      refine ⟨p, _, rfl, SqT.of upd_same, rfl, _, _, rfl, _, _, rfl, q, _, rfl, SqT.of hq3, rfl, _, _, rfl, _, _, rfl, rfl, rfl, ?_⟩
      refine ⟨_, rfl, ft.1, rfl, dk.nm ft (List.mem_of_getElem? hft), fun H4 s4 => ⟨true, rfl, ?_⟩⟩
      refine iteF ?_
      refine ⟨_, rfl, _, rfl, _, _, rfl, rfl, _, rfl, ?_⟩
      refine iteNS (hls i ft hft (Nat.le_refl _)) ?_
      refine ⟨_, rfl, ft.1, some (.int i), some (.str ft.1), some (.str ft.2), rfl, sm.trans ((same_new hp).trans s4), fun j gt e hj => ?_⟩
      have hi' : i < doc.length := (List.getElem?_eq_some_iff.mp hft).1
      have hj' : j < doc.length := (List.getElem?_eq_some_iff.mp e).1
      have := List.pairwise_iff_getElem.mp dk.rise i j hi' hj' hj
      rw [(List.getElem?_eq_some_iff.mp hft).2, (List.getElem?_eq_some_iff.mp e).2] at this
      exact this
    · rintro σ H2 ⟨ls, v2, v3, v4, rfl, sm, hls⟩
      exact k H2 sm
end
end KP
namespace KP
open PySem L2
section
variable {P : Program} {w : World} {K : PySem.W.Frag} {mg : Str → Option Value} {base : Heap}
/-! look_at_makes -/
def spLookMakes : Sp := fun vs H Q _ => ∃ (a : Addr) (ms : Makes), vs = [.ref a] ∧ MakesAt H a ms ∧ MakesOk ms ∧ ∀ H', Same H H' → Q .non H'
theorem scLookMakes : FnScope ["makes", "last", "place", "make", "document"] ["makes"] (defScope sLookMakes) := ⟨rfl, rfl, rfl, by decide +kernel, rfl, by decide +kernel, by decide +kernel⟩
theorem ok_lookMakes {f C fn fl : Addr} {fd fdn fdl : FuncData} (F : Fun K "look_at_makes" "look_at_makes" sLookMakes f fd) (T : Txt K mg C) (L : DefAt K mg "is_name" sIsName ["text"] fn fdn)
    (D : DefAt K mg "look_at_document" sLookDoc ["document"] fl fdl) : FnOk P w K mg base CX0 3 f fd ["makes"] spLookMakes := by
  have GD : FnOk P w K mg base CX0 2 fl fdl ["document"] spLookDoc := ok_lookDoc D.fn T L
  refine F.ok scLookMakes (fun vs H Q E h => ?_) (fun cdv A outer s H vs Q E hr h => ?_)
  · obtain ⟨a, d, rfl, _⟩ := h
    rfl
  · obtain ⟨a, ms, rfl, ⟨xs, hA, pd⟩, mk, k⟩ := h
    refine ⟨_, pss_cons (ps_set (i := 1) scLookMakes.nd rfl (Or.inl rfl) (pe_un un_neg pe_int))
      (pss_one (ps_for PassesOwn.never rfl (pi_enum rfl T.enumerate (pa_cons (pv 0) pa_nil))
          (pg_tup rfl (pgs_cons (pg_name (i := 2) scLookMakes.nd rfl (Or.inl rfl)) (pgs_cons (pg_tup rfl (pgs_cons (pg_name (i := 3) scLookMakes.nd rfl (Or.inl rfl)) (pgs_cons (pg_name (i := 4) scLookMakes.nd rfl (Or.inl rfl)) pgs_nil))) pgs_nil)))
        (pss_cons (ps_if (pt_cmpR op_le (pv 3) (pv 1) (nomark _)) pss_never pss_nil)
        (pss_cons (ps_set (i := 1) scLookMakes.nd rfl (Or.inl rfl) (pv 3))
        (pss_one (ps_expr (pe_call GD hr rfl D.at_ D.fn.kp D.bd .nil pass0 (pa_cons (pv 4) pa_nil)))))))), ?_⟩
    refine ⟨_, rfl, _, rfl, a, xs, rfl, SqL.of hA, for_it walk_enum
      (fun i σ H2 => ∃ (ls : Int) (v2 v3 v4 : Option V), σ = [some (.ref a), some (.int ls), v2, v3, v4] ∧ Same H H2 ∧ ∀ j md, ms[j]? = some md → i ≤ j → ls < md.1)
      ⟨-1, none, none, none, rfl, Same.refl H, fun j md e _ => ?_⟩ (fun i σ H2 _ ⟨_, _, _, _, _, sm, _⟩ => SqL.of (sm _ _ hA)) ?_ ?_⟩
    · have h0 := mk.pos md (List.mem_of_getElem? e)
      omega
    · rintro i x σ H2 H3 hi ⟨ls, v2, v3, v4, rfl, sm, hls⟩ ⟨p, y, z, rfl, hp, rfl, e1, e2⟩
      cases e1
      obtain ⟨md, hmd, q, b, rfl, hq, hd⟩ := pd_get pd e2
      have hq3 : ∀ {o}, upd H2 p o q = some (.tup [.int md.1, .ref b]) := fun {o} => upd_old (sm _ _ hq) hp
      refine ⟨p, _, rfl, SqT.of upd_same, rfl, _, _, rfl, _, _, rfl, q, _, rfl, SqT.of hq3, rfl, _, _, rfl, _, _, rfl, rfl, rfl, ?_⟩
      refine ⟨_, rfl, _, rfl, _, _, rfl, rfl, _, rfl, ?_⟩
      have hlt := hls i md hmd (Nat.le_refl _)
      have e0 : decide (md.1 ≤ ls) = false := decide_eq_false (by omega)
      rw [e0]
      refine iteF ?_
      refine ⟨_, rfl, _, rfl, b, md.2, rfl, ?_, mk.docs md (List.mem_of_getElem? hmd), fun H4 s4 => ?_⟩
      · exact hd.mono (TS.trans (sTS sm) (ts_new hp)) (LS.trans (sLS sm) (ls_new hp))
      refine ⟨md.1, some (.int i), some (.int md.1), some (.ref b), rfl, sm.trans ((same_new hp).trans s4), fun j gt e hj => ?_⟩
      have hi' : i < ms.length := (List.getElem?_eq_some_iff.mp hmd).1
      have hj' : j < ms.length := (List.getElem?_eq_some_iff.mp e).1
      have := List.pairwise_iff_getElem.mp mk.rise i j hi' hj' hj
      rw [(List.getElem?_eq_some_iff.mp hmd).2, (List.getElem?_eq_some_iff.mp e).2] at this
      exact this
    · rintro σ H2 ⟨ls, v2, v3, v4, rfl, sm, hls⟩
      exact k H2 sm
end
end KP
namespace KP
open PySem L2
section
variable {P : Program} {w : World} {K : PySem.W.Frag} {mg : Str → Option Value} {base : Heap}
/-! counted -/
def spCounted : Sp := fun vs H Q _ => ∃ (a : Addr) (doc : Doc), vs = [.ref a] ∧ DocAt H a doc ∧ DocOk doc ∧ ∀ (d : Addr) (kvs : List (Key × V)) (H' : Hp), Same H H' → H d = none → H' d = some (.dK kvs) → KD (Cnt (fr H' (upd H d (.dK [])))) kvs (counted doc) → Q (.ref d) H'
theorem scCounted : FnScope ["document", "found", "field", "text", "places", "many", "word", "begin", "end"] ["document"] (defScope sCounted) := ⟨rfl, rfl, rfl, by decide +kernel, rfl, by decide +kernel, by decide +kernel⟩
theorem ok_counted {f C fl fw : Addr} {fd fdl fdw : FuncData} (F : Fun K "counted" "counted" sCounted f fd) (T : Txt K mg C) (L : DefAt K mg "lowered" sLowered ["sign"] fl fdl)
    (W : DefAt K mg "words_of" sWordsOf ["text"] fw fdw) : FnOk P w K mg base CX0 3 f fd ["document"] spCounted := by
  have GW : FnOk P w K mg base CX0 2 fw fdw ["text"] spWordsOf := ok_wordsOf W.fn T L
  refine F.ok scCounted (fun vs H Q E h => ?_) (fun cdv A outer s H vs Q E hr h => ?_)
  · obtain ⟨a, d, rfl, _⟩ := h
    rfl
  · obtain ⟨a, doc, rfl, ⟨xs, hA, pd⟩, dk, k⟩ := h
    have hu := hu_of hr
    refine ⟨_, pss_cons (ps_set (i := 1) scCounted.nd rfl (Or.inl rfl) pe_dnewK)
      (pss_cons (ps_for PassesOwn.never rfl (pi_list (pv 0))
          (pg_tup rfl (pgs_cons (pg_name (i := 2) scCounted.nd rfl (Or.inl rfl)) (pgs_cons (pg_name (i := 3) scCounted.nd rfl (Or.inl rfl)) pgs_nil)))
        (pss_cons (ps_set (i := 4) scCounted.nd rfl (Or.inl rfl) pe_dnewK)
        (pss_cons (ps_set (i := 5) scCounted.nd rfl (Or.inl rfl) pe_int)
        (pss_cons (ps_for PassesOwn.never rfl (pi_list (pe_call GW hr rfl W.at_ W.fn.kp W.bd .nil pass0 (pa_cons (pv 3) pa_nil)))
            (pg_tup rfl (pgs_cons (pg_name (i := 6) scCounted.nd rfl (Or.inl rfl)) (pgs_cons (pg_name (i := 7) scCounted.nd rfl (Or.inl rfl)) (pgs_cons (pg_name (i := 8) scCounted.nd rfl (Or.inl rfl)) pgs_nil))))
          (pss_cons (ps_dput hu (pv 4) (pv 6) (pe_op op_cat (pe_dget2 hu (pv 4) (pv 6) (pe_lst pa_nil) ⟨rfl, rfl, rfl, rfl⟩) (pe_lst (pa_cons (pv 5) pa_nil))) rfl)
          (pss_one (ps_aug (i := 5) scCounted.nd rfl (.inl rfl) pe_int ip_add))))
        (pss_one (ps_if (pt_cmpR op_gt (pv 5) pe_int (nomark _))
          (pss_one (ps_dput hu (pv 1) (pv 2) (pe_tup (pa_cons (pv 5) (pa_cons (pv 4) pa_nil))) rfl)) pss_nil))))))
      (pss_one (ps_ret (pv 1)))), ?_⟩
    intro d hd
    have hdD : (upd H d (.dK [])) d ≠ none := by rw [upd_same]; intro z; cases z
    refine ⟨_, rfl, a, rfl, ⟨xs, SqL.of (upd_old hA hd)⟩, for_it walk_list
      (fun i σ H2 => ∃ (v2 v3 v4 v5 v6 v7 v8 : Option V), σ = [some (.ref a), some (.ref d), v2, v3, v4, v5, v6, v7, v8] ∧ Same H H2 ∧ ∃ kvs, H2 d = some (.dK kvs) ∧ KD (Cnt (fr H2 (upd H d (.dK [])))) kvs (counted (doc.take i)))
      ⟨none, none, none, none, none, none, none, rfl, same_new hd, [], upd_same, .nil⟩
      (fun i σ H2 _ ⟨_, _, _, _, _, _, _, _, sm, _⟩ => SqL.of (sm _ _ hA)) ?_ ?_⟩
    · rintro i x σ H2 H3 hi ⟨v2, v3, v4, v5, v6, v7, v8, rfl, sm, kvs, hK, kd⟩ ⟨rfl, hx⟩
      obtain ⟨ft, hft, p, rfl, hp⟩ := pd_get pd hx
      have hK1 := hK
      have hftm := List.mem_of_getElem? hft
      have hidoc : i < doc.length := (List.getElem?_eq_some_iff.mp hft).1
      refine ⟨p, _, rfl, SqT.of (sm _ _ hp), rfl, _, _, rfl, _, _, rfl, rfl, ?_⟩
      intro q hq
      have hq0 : upd H d (.dK []) q = none := dom_free sm hK hq
      -- words_of(text)
      refine ⟨_, rfl, ft.2, rfl, (dk.tx ft hftm).1, fun l ws H4 s4 hl hL pw => ?_⟩
      have sq : Same H (upd H3 q (.dK [])) := sm.trans (same_new hq)
      have hl3 : H3 l = none := (same_new hq).free hl
      have hwl : (wordsL ft.2).length ≤ 1001 := by have := wordsL_len ft.2; have := (dk.tx ft hftm).1; omega
      refine ⟨l, rfl, ⟨ws, SqL.of hL⟩, for_it walk_list
        (fun j σ H5 => ∃ (v6 v7 v8 : Option V), σ = [some (.ref a), some (.ref d), some (.str ft.1), some (.str ft.2), some (.ref q), some (.int (j : Nat)), v6, v7, v8] ∧ Same H3 H5 ∧ H5 l = some (.lst ws) ∧ Paired (WordTup H5) ws (wordsL ft.2) ∧
          PlsAt (fr H5 (upd H d (.dK []))) q (((enumI (wordsL ft.2)).take j).foldl stepP []))
        ⟨v6, v7, v8, rfl, (same_new hq).trans s4, hL, pw, [], fr_in (s4 _ _ upd_same) hq0, .nil⟩ (fun j σ H5 _ ⟨_, _, _, _, _, h, _⟩ => SqL.of h) ?_ ?_⟩
      · rintro j y σ H5 H6 hj ⟨v6, v7, v8, rfl, s5, hL5, pw5, kvs5, hP5, kd5⟩ ⟨rfl, hy⟩
        obtain ⟨wd, hwd, t, b0, e0, rfl, ht⟩ := pd_get pw5 hy
        obtain ⟨hP6, _⟩ := fr_at hP5
        refine ⟨t, _, rfl, SqT.of ht, rfl, _, _, rfl, _, _, rfl, _, _, rfl, rfl, ?_⟩
        have hlen5 : kvs5.length ≤ j := by
          rw [pd_len kd5]
          have := foldP_len ((enumI (wordsL ft.2)).take j) []
          have e : ((enumI (wordsL ft.2)).take j).length ≤ j := by rw [List.length_take]; omega
          show (((enumI (wordsL ft.2)).take j).foldl stepP []).length ≤ j
          have e' : ([] : List (Str × List Int)).length = 0 := rfl
          omega
        have hjl : j < (wordsL ft.2).length := (List.getElem?_eq_some_iff.mp hwd).1
        refine ⟨_, rfl, q, rfl, .inl ⟨kvs5, .inl hP6⟩, _, rfl, Nat.zero_le _, fun e he => ?_⟩
        have s6a : Same H6 (upd H6 e (.lst [])) := same_new he
        have hd6 := s5 _ _ hK
        have he0 : upd H d (.dK []) e = none := dom_free (sm.trans s5) hd6 he
        have hPe := s6a _ _ hP6
        refine ⟨_, DGet.k (k := Sum.inr wd) hPe, _, rfl, (by show 1 ≤ sizeLine; decide), fun b hb => ?_⟩
        have s6b : Same (upd H6 e (.lst [])) (upd (upd H6 e (.lst [])) b (.lst [.int (j : Nat)])) := same_new hb
                -- what stands there
        obtain ⟨l1, el1, hl1⟩ : IL (fr (upd H6 e (.lst [])) (upd H d (.dK []))) ((valV kvs5 (Sum.inr wd : Key)).getD (.ref e)) ((look (((enumI (wordsL ft.2)).take j).foldl stepP []) wd).getD []) :=
          RO.getD ((kd5.mono fun _ _ z => z.mono (sLS (fr_same s6a))).val wd) ⟨e, rfl, fr_in upd_same he0⟩
        have hl1' := (fr_at hl1).1
        have hpl : ((look (((enumI (wordsL ft.2)).take j).foldl stepP []) wd).getD []).length ≤ j := by
          have := rowlen_le (((enumI (wordsL ft.2)).take j)) wd
          have e : ((enumI (wordsL ft.2)).take j).length ≤ j := by rw [List.length_take]; omega
          omega
        refine ⟨l1, b, _, _, el1, rfl, s6b _ _ hl1', upd_same, size_line (by rw [List.length_map]; show _ + 1 ≤ _; omega), fun g hg => ?_⟩
        have s6c := same_new (o := HO.lst (((look (((enumI (wordsL ft.2)).take j).foldl stepP []) wd).getD []).map V.int ++ [.int (j : Nat)])) hg
        have hg0 : upd H d (.dK []) g = none := dom_free (((sm.trans s5).trans s6a).trans s6b) (s6b _ _ (s6a _ _ hd6)) hg
        have hPg := s6c _ _ (s6b _ _ hPe)
        have sAll := (s6a.trans s6b).trans s6c
        refine ⟨_, rfl, _, rfl, q, _, rfl, DPut.k (k := Sum.inr wd) hPg (size_lt (by omega)), ?_⟩
        refine ⟨_, rfl, _, _, rfl, rfl, ?_⟩
        refine ⟨some (.str wd), some (.int b0), some (.int e0), rfl, ?_, ?_, ?_, ?_⟩
        · exact same_at (s5.trans sAll) hq
        · exact upd_oth (sAll _ _ hL5) (ne_of (sAll _ _ hL5) hPg (by intro z; cases z))
        · exact Paired.mapP pw5 fun _ _ z => (z.mono (sTS sAll)).mono (ts_dK hPg)
        · refine ⟨putK kvs5 (Sum.inr wd) (.ref g), fr_in upd_same hq0, ?_⟩
          rw [foldl_take _ _ _ (enumI_get hwd)]
          have kd6 : KD (IL (fr (upd (upd (upd (upd H6 e (.lst [])) b (.lst [.int (j : Nat)])) g (HO.lst (((look (((enumI (wordsL ft.2)).take j).foldl stepP []) wd).getD []).map V.int ++ [.int (j : Nat)]))) q (.dK (putK kvs5 (Sum.inr wd) (.ref g)))) (upd H d (.dK [])))) kvs5 (((enumI (wordsL ft.2)).take j).foldl stepP []) := by
            refine kd5.mono fun _ _ z => ?_
            rw [fr_upd hq0]
            exact (z.mono (sLS (fr_same sAll))).mono (ls_dK (fr_in hPg hq0))
          refine KD.put kd6 (foldP_nodup _ _ List.nodup_nil) ⟨g, rfl, ?_⟩
          refine fr_in (upd_oth ?_ ?_) hg0
          · rw [upd_same, List.map_append]; rfl
          · exact ne_of upd_same hPg (by intro z; cases z)
      · rintro σ H5 ⟨v6, v7, v8, rfl, s5, hL5, pw5, pl5⟩
        have pl : PlsAt (fr H5 (upd H d (.dK []))) q (placesOf (wordsL ft.2)) := by
          have e : (enumI (wordsL ft.2)).take ws.length = enumI (wordsL ft.2) := by rw [pd_len pw5, ← enumI_len, List.take_length]
          rw [e] at pl5
          exact pl5
        have hwn : ws.length = (wordsL ft.2).length := pd_len pw5
        have hK5 := s5 _ _ hK1
        have hd0 : H d = none := hd
        have cnt5 : KD (Cnt (fr H5 (upd H d (.dK [])))) kvs (counted (doc.take i)) := kd.mono fun _ _ z => z.mono (fr_same s5)
        have etake : doc.take (i + 1) = doc.take i ++ [ft] := by rw [List.take_add_one, hft]; rfl
        refine ⟨_, rfl, _, _, rfl, rfl, _, rfl, ?_⟩
        rw [hwn]
        by_cases e : wordsL ft.2 = []
        · have e1 : decide ((0 : Int) < ((wordsL ft.2).length : Nat)) = false := by rw [e]; rfl
          rw [e1]
          refine iteF ?_
          refine ⟨some (.str ft.1), some (.str ft.2), some (.ref q), some (.int ((wordsL ft.2).length : Nat)), v6, v7, v8, rfl, sm.trans s5, kvs, hK5, ?_⟩
          rw [etake, counted_snoc]
          have e2 : cntOf ft = none := by unfold cntOf; rw [if_pos e]
          rw [e2]
          show KD _ kvs (counted (doc.take i) ++ [])
          rw [List.append_nil]
          exact cnt5
        · have hpos : 0 < (wordsL ft.2).length := List.length_pos_iff.mpr e
          have e1 : decide ((0 : Int) < ((wordsL ft.2).length : Nat)) = true := decide_eq_true (by omega)
          rw [e1]
          refine iteT ?_
          refine ⟨_, rfl, _, rfl, (by show 2 ≤ sizeLine; decide), fun t ht => ?_⟩
          have s5t := same_new (o := HO.tup [.int ((wordsL ft.2).length : Nat), .ref q]) ht
          have ht0 : upd H d (.dK []) t = none := dom_free (sm.trans s5) hK5 ht
          have hKt := s5t _ _ hK5
          have hlk : kvs.length ≤ 20 := by
            rw [pd_len kd]
            have h1 : (counted (doc.take i)).length ≤ (doc.take i).length := List.length_filterMap_le _ _
            have h2 : (doc.take i).length ≤ doc.length := by rw [List.length_take]; omega
            have := dk.len
            omega
          refine ⟨_, rfl, _, rfl, d, _, rfl, DPut.k (k := Sum.inr ft.1) hKt (size_lt (by omega)), ?_⟩
          refine ⟨some (.str ft.1), some (.str ft.2), some (.ref q), some (.int ((wordsL ft.2).length : Nat)), v6, v7, v8, rfl, ?_, _, upd_same, ?_⟩
          · exact same_at ((sm.trans s5).trans s5t) hd0
          · rw [etake, counted_snoc, fr_upd_old hdD]
            have e2 : cntOf ft = some (ft.1, (wordsL ft.2).length, placesOf (wordsL ft.2)) := by unfold cntOf; rw [if_neg e]
            rw [e2]
            show KD _ _ (counted (doc.take i) ++ [(ft.1, (wordsL ft.2).length, placesOf (wordsL ft.2))])
            have nin : look (counted (doc.take i)) ft.1 = none := look_none.mpr fun z => by
              have nd : (doc.take (i + 1) |>.map (·.1)).Nodup := (List.take_sublist _ _).map _ |>.nodup dk.nd
              have z2 := (counted_keys (doc.take i) ((List.take_sublist _ _).map _ |>.nodup dk.nd)).2 _ z
              rw [etake, List.map_append] at nd
              exact (List.nodup_append.mp nd).2.2 _ z2 _ (by simp) rfl
            rw [putK_new _ (RO.none_iff (kd.val ft.1) nin)]
            have h1 : Cnt (fr (upd H5 t (.tup [.int ((wordsL ft.2).length : Nat), .ref q])) (upd H d (.dK []))) (.ref t) ((wordsL ft.2).length, placesOf (wordsL ft.2)) :=
              ⟨t, q, rfl, fr_in upd_same ht0, pl.mono (fr_same s5t)⟩
            exact pd_snoc ⟨rfl, h1⟩ (cnt5.mono fun _ _ z => z.mono (fr_same s5t))
    · rintro σ H2 ⟨v2, v3, v4, v5, v6, v7, v8, rfl, sm, kvs, hK, cnt⟩
      have e : doc.take xs.length = doc := by rw [pd_len pd, List.take_length]
      rw [e] at cnt
      exact ⟨_, rfl, k d kvs H2 sm hd hK cnt⟩
end
end KP
namespace KP
open PySem L2
section
variable {P : Program} {w : World} {K : PySem.W.Frag} {mg : Str → Option Value} {base : Heap}
/-! copied_postings -/
def spCopied : Sp := fun vs H Q _ => ∃ (a : Addr) (xs : List V) (rows : Rows), vs = [.ref a] ∧ H a = some (.lst xs) ∧ Paired (RowV H) xs rows ∧ rows.length ≤ 1000000 ∧
  ∀ (l : Addr) (ys : List V) (H' : Hp), Same H H' → H l = none → H' l = some (.lst ys) → Paired (RowV (fr H' (upd H l (.lst [])))) ys rows → Q (.ref l) H'
theorem scCopied : FnScope ["postings", "make", "places"] ["postings"] (defScope sCopied) := ⟨rfl, rfl, rfl, by decide +kernel, rfl, by decide +kernel, by decide +kernel⟩
theorem ok_copied {f C : Addr} {fd : FuncData} (F : Fun K "copied_postings" "copied_postings" sCopied f fd) (T : Txt K mg C) : FnOk P w K mg base CX0 1 f fd ["postings"] spCopied := by
  refine F.ok scCopied (fun vs H Q E h => ?_) (fun cdv A outer s H vs Q E hr h => ?_)
  · obtain ⟨a, xs, rows, rfl, _⟩ := h
    rfl
  · obtain ⟨a, xs, rows, rfl, hA, pd, hz, k⟩ := h
    refine ⟨_, pss_one (ps_ret (pe_lc (own := [("make", 1), ("places", 2)]) (g := gTup K 2 (gCons (gName 1) (gCons (gName 2) gNil))) (tt := tYes) rfl scCopied.nd (pi_list (pv 0)) (blkOk_by (N := ["postings", "make", "places"]) (sc := defScope sCopied) (by decide +kernel))
          (fun _ _ _ _ _ => pg_tup rfl (pgs_cons (pg_name (i := 1) scCopied.nd rfl (Or.inl rfl)) (pgs_cons (pg_name (i := 2) scCopied.nd rfl (Or.inl rfl)) pgs_nil))) (fun _ _ _ _ _ => pts_nil)
          (fun _ _ _ _ _ => pe_tup (pa_cons (pv 1) (pa_cons (pe_callTy (T := "list") (call_listK (K := K)) (by rfl) T.list (by decide +kernel) (pa_cons (pv 2) pa_nil)) pa_nil))))), ?_⟩
    refine ⟨_, rfl, a, rfl, ⟨xs, SqL.of hA⟩, fun D hD => lc_it walk_list (fun i H2 => Same H H2 ∧ ∃ ys, H2 D = some (.lst ys) ∧ Paired (RowV (fr H2 (upd H D (.lst [])))) ys (rows.take i))
      ⟨same_new hD, [], upd_same, .nil⟩ (fun i H2 _ h => SqL.of (h.1 _ _ hA)) ?_ ?_⟩
    · rintro i x H2 H3 hi ⟨sm, ys, hL, py⟩ ⟨rfl, hx⟩
      obtain ⟨r, hr', t, l0, rfl, ht, hl0⟩ := pd_get pd hx
      refine ⟨t, _, rfl, SqT.of (sm _ _ ht), rfl, _, _, rfl, _, _, rfl, rfl, rfl, ?_⟩
      refine ⟨_, rfl, _, rfl, l0, _, rfl, .inl (SqL.of (sm _ _ hl0)), fun q hq => ⟨by show 2 ≤ sizeLine; decide, fun t2 ht2 => ?_⟩⟩
      have sq := same_new (o := HO.lst (r.2.map V.int)) hq
      have st := same_new (o := HO.tup [.int r.1, .ref q]) ht2
      have hq0 := dom_free (o := .lst []) sm hL hq
      have ht0 := dom_free (o := .lst []) (sm.trans sq) (sq _ _ hL) ht2
      have hLt := st _ _ (sq _ _ hL)
      refine ⟨ys, hLt, size_lt (by rw [pd_len py, List.length_take]; have : i < rows.length := (List.getElem?_eq_some_iff.mp hr').1; omega), same_at ((sm.trans sq).trans st) hD, _, upd_same, ?_⟩
      have hDD : upd H D (.lst []) D ≠ none := by rw [upd_same]; intro z; cases z
      have e : rows.take (i + 1) = rows.take i ++ [r] := by rw [List.take_add_one, hr']; rfl
      rw [e, fr_upd_old hDD]
      have h1 : RowV (fr (upd (upd H3 q (.lst (r.2.map V.int))) t2 (.tup [.int r.1, .ref q])) (upd H D (.lst []))) (.ref t2) r := ⟨t2, q, rfl, fr_in upd_same ht0, fr_in (st _ _ upd_same) hq0⟩
      exact pd_snoc h1 (Paired.mapP py fun _ _ z => z.mono (sTS (fr_same (sq.trans st))) (sLS (fr_same (sq.trans st))))
    · rintro H2 ⟨sm, ys, hL, py⟩
      have e : rows.take xs.length = rows := by rw [pd_len pd, List.take_length]
      rw [e] at py
      exact k D ys H2 sm hD hL py
end
end KP
namespace KP
open PySem L2
section
variable {P : Program} {w : World} {K : PySem.W.Frag} {mg : Str → Option Value} {base : Heap}
/-! take_in -/
def spTakeIn (C : Addr) : Sp := fun vs H Q _ => ∃ (H0 Hc : Hp) (x dx hl ld tb pd : Addr) (m : Int) (c : Str × Nat × List (Str × List Int)) (tab : Tab) (B : Nat) (kvp : List (Key × V)),
  vs = [.ref x, .str c.1, .int m, .ref pd] ∧ Same H0 Hc ∧ Same Hc H ∧ Hc x = some (.ins C dx (flds hl ld tb)) ∧ TabI (fr H Hc) (fr H H0) tb tab ∧ TabNd tab ∧ SZ tab B ∧ B + c.2.2.length + 1 ≤ 1000000 ∧
  Hc pd = some (.dK kvp) ∧ KD (IL (fr Hc H0)) kvp c.2.2 ∧ (c.2.2.map (·.1)).Nodup ∧ ∀ H', Same Hc H' → TabI (fr H' Hc) (fr H' H0) tb (putF' m tab c) → Q .non H'
theorem scTakeIn : FnScope ["self", "field", "make", "places", "words", "word"] ["self", "field", "make", "places"] (defScope sTakeIn) := ⟨rfl, rfl, rfl, by decide +kernel, rfl, by decide +kernel, by decide +kernel⟩
theorem ok_takeIn {f C : Addr} {fd : FuncData} (F : Fun K "take_in" "Piece.take_in" sTakeIn f fd) (T : Txt K mg C) : FnOk P w K mg base CX0 1 f fd ["self", "field", "make", "places"] (spTakeIn C) := by
  refine F.ok scTakeIn (fun vs H Q E h => ?_) (fun cdv A outer s H vs Q E hr h => ?_)
  · obtain ⟨_, _, _, _, _, _, _, _, _, _, _, _, _, rfl, _⟩ := h
    rfl
  · obtain ⟨H0, Hc, x, dx, hl, ld, tb, pd, m, ⟨f, n, A⟩, tab, B, kvp, rfl, s0, sc, hx, ⟨kvs, hK, kd, nd, ntb⟩, tnd, sz, hB, hP, kdp, ndA, k⟩ := h
    dsimp only at kdp ndA hB
    have hu := hu_of hr
    obtain ⟨hK1, hctb⟩ := fr_at hK
    have hkeys : (kvs.map (·.1)).Nodup := by
      rw [kd.keys]
      exact List.pairwise_map.mpr (tnd.1.imp fun {a b} h z => h (Sum.inr.inj z))
    refine ⟨_, pss_cons (ps_set (i := 4) scTakeIn.nd rfl (Or.inl rfl) (pe_dget2 hu (pe_fld (pv 0) rfl) (pv 1) pe_dnewK ⟨rfl, rfl, rfl, rfl⟩))
      (pss_cons (ps_dput hu (pe_fld (pv 0) rfl) (pv 1) (pv 4) rfl)
      (pss_one (ps_lock (ps_for PassesOwn.never rfl (pi_keysM (pv 3)) (pg_name (i := 5) scTakeIn.nd rfl (Or.inl rfl))
        (pss_one (ps_dput hu (pv 4) (pv 5) (pe_op op_cat (pe_dget2 hu (pv 4) (pv 5) (pe_lst pa_nil) ⟨rfl, rfl, rfl, rfl⟩)
          (pe_lst (pa_cons (pe_tup (pa_cons (pv 2) (pa_cons (pe_dget hu (pv 3) (pv 5) (fun _ _ => rfl)) pa_nil))) pa_nil))) rfl)))))), ?_⟩
    refine ⟨_, rfl, x, C, dx, _, _, rfl, sc _ _ hx, T.cl, T.nT, flds_t hl ld tb, tb, rfl, .inl ⟨kvs, .inl hK1⟩, _, rfl, fun e he => ?_⟩
    have s1 := same_new (o := HO.dK []) he
    have hce : Hc e = none := sc.free he
    have h0e : H0 e = none := s0.free hce
    have hK2 := s1 _ _ hK1
    refine ⟨_, DGet.k (k := Sum.inr f) hK2, ?_⟩
    have kd1 : KD (WordsV (fr (upd H e (.dK [])) Hc) (fr (upd H e (.dK [])) H0)) kvs tab := kd.mono fun _ _ z => z.mono (fr_same s1) (fr_ts (sTS s1)) (fr_ls (sLS s1))
    -- the field's own dict
    obtain ⟨wd, kvs2, kw, hval, hput, hkv, hwd, hkw, kd2, nd2, ntb2, hlen2⟩ : ∃ (wd : Addr) (kvs2 kw : List (Key × V)), (valV kvs (Sum.inr f : Key)).getD (.ref e) = .ref wd ∧ putK kvs (Sum.inr f : Key) (.ref wd) = kvs2 ∧ valV kvs2 (Sum.inr f : Key) = some (.ref wd) ∧
        (fr (upd H e (.dK [])) Hc) wd = some (.dK kw) ∧ KD (RowsV (fr (upd H e (.dK [])) H0)) kw ((look tab f).getD []) ∧ KD (WordsV (fr (upd H e (.dK [])) Hc) (fr (upd H e (.dK [])) H0)) kvs2 (alt tab f fun o => o.getD []) ∧ (kvs2.map (·.2)).Nodup ∧ V.ref tb ∉ kvs2.map (·.2) ∧ kvs2.length ≤ B + 1 := by
      cases hlk : look tab f with
      | none =>
        have hv := RO.none_iff (kd.val f) hlk
        have ene : ∀ v ∈ kvs.map (·.2), v ≠ V.ref e := fun v hv z => by
          obtain ⟨wd, kw, h1, h2⟩ := kd_mem kd hv
          rw [z] at h1
          injection h1 with h1
          rw [← h1] at h2
          rw [(fr_at h2).1] at he
          cases he
        refine ⟨e, kvs ++ [(Sum.inr f, .ref e)], [], by rw [hv]; rfl, putK_new _ hv, ?_, fr_in upd_same hce, .nil, ?_, ?_, ?_, ?_⟩
        · have := valV_put kvs (Sum.inr f : Key) (Sum.inr f : Key) (V.ref e)
          rw [if_pos rfl, putK_new _ hv] at this
          exact this
        · rw [alt_new hlk]
          exact pd_snoc ⟨rfl, e, [], rfl, fr_in upd_same hce, .nil⟩ kd1
        · rw [List.map_append]
          refine List.nodup_append.mpr ⟨nd, by simp, fun a ha b hb => ?_⟩
          have hb' : b = V.ref e := by simpa using hb
          rw [hb']
          exact ene a ha
        · rw [List.map_append]
          intro z
          rcases List.mem_append.mp z with z | z
          · exact ntb z
          · have : V.ref tb = V.ref e := by simpa using z
            injection this with this
            rw [← this, hK1] at he
            cases he
        · rw [List.length_append, pd_len kd]
          have := sz.1
          simp only [List.length_singleton]
          omega
      | some T0 =>
        obtain ⟨v, hv, wd, kw, rfl, h2, h3⟩ := RO.some_of (kd1.val f) hlk
        refine ⟨wd, kvs, kw, by rw [hv]; rfl, putK_same hkeys hv, hv, h2, h3, ?_, nd, ntb, by rw [pd_len kd]; have := sz.1; omega⟩
        have e2 : alt tab f (fun o => o.getD []) = tab := by
          rw [alt_map tnd.1 hlk]
          have : ∀ q ∈ tab, (if q.1 = f then (q.1, (some T0).getD []) else q) = q := fun q hq => by
            by_cases z : q.1 = f
            · rw [if_pos z]
              have := look_of_mem tnd.1 (show (q.1, q.2) ∈ tab from hq)
              rw [z, hlk] at this
              exact Prod.ext rfl (Option.some.inj this)
            · rw [if_neg z]
          rw [List.map_congr_left this, List.map_id']
        rw [e2]
        exact kd1
    rw [hval]
    refine ⟨_, rfl, _, rfl, x, C, dx, _, _, rfl, s1 _ _ (sc _ _ hx), T.cl, T.nT, flds_t hl ld tb, _, rfl, tb, _, rfl, DPut.k (k := Sum.inr f) hK2 (size_lt (by rw [pd_len kd]; have := sz.1; omega)), ?_⟩
    rw [hput]
    have hctb2 : Hc tb = none := hctb
    have h0tb : H0 tb = none := s0.free hctb
    have sc2 : Same Hc (upd (upd H e (.dK [])) tb (.dK kvs2)) := same_at (sc.trans s1) hctb
    have hP2 : (upd (upd H e (.dK [])) tb (.dK kvs2)) pd = some (.dK kvp) := sc2 _ _ hP
    refine ⟨pd, .dK kvp, hP2, trivial, fun od => ?_⟩
    have hcpd : Hc pd ≠ none := by rw [hP]; intro z; cases z
    have wne : wd ≠ tb := fun z => by
      apply ntb2
      rw [← z]
      unfold valV at hkv
      obtain ⟨q, hq, e2⟩ := Option.map_eq_some_iff.mp hkv
      exact List.mem_map.mpr ⟨q, List.mem_of_find?_eq_some hq, e2⟩
    -- places rise
    refine ⟨_, rfl, pd, od, kvp, rfl, upd_same, for_it walk_keys
      (fun j σ H3 => ∃ (v5 : Option V) (kw3 : List (Key × V)), σ = [some (.ref x), some (.str f), some (.int m), some (.ref pd), some (.ref wd), v5] ∧ Same (upd Hc pd (.frz od (.dK kvp))) H3 ∧ fr H3 Hc tb = some (.dK kvs2) ∧ fr H3 Hc wd = some (.dK kw3) ∧
        KD (RowsV (fr H3 H0)) kw3 ((A.take j).foldl (addP m) ((look tab f).getD [])) ∧ KD (WordsV (fr H3 Hc) (fr H3 H0)) kvs2 (alt tab f fun o => (A.take j).foldl (addP m) (o.getD [])))
      ⟨none, kw, rfl, ?_, ?_, ?_, ?_, ?_⟩ (fun j σ H3 _ ⟨_, _, _, s3, _⟩ => s3 _ _ upd_same) ?_ ?_⟩
    · intro b u hb
      by_cases z : b = pd
      · rw [z, upd_same] at hb ⊢; exact hb
      · rw [upd_ne z] at hb ⊢; exact sc2 _ _ hb
    · rw [fr_upd_old hcpd, fr_upd hctb, upd_same]
    · rw [fr_upd_old hcpd, fr_upd hctb]; exact upd_oth hwd wne
    · have t1 := TS.trans (ts_dK (o := .dK kvs2) hK2) (ts_dK (o := .frz od (.dK kvp)) hP2)
      have l1 := LS.trans (ls_dK (o := .dK kvs2) hK2) (ls_dK (o := .frz od (.dK kvp)) hP2)
      exact hkw.mono fun _ _ z => z.mono (fr_ts t1) (fr_ls l1)
    · rw [fr_upd_old hcpd, fr_upd hctb]
      have t1 := TS.trans (ts_dK (o := .dK kvs2) hK2) (ts_dK (o := .frz od (.dK kvp)) hP2)
      have l1 := LS.trans (ls_dK (o := .dK kvs2) hK2) (ls_dK (o := .frz od (.dK kvp)) hP2)
      exact (kd_upd kd2 ntb2).mono fun _ _ z => z.mono (Same.refl _) (fr_ts t1) (fr_ls l1)
    · rintro j y σ H3 H4 hj ⟨v5, kw3, rfl, s3, hK3, hW3, kdw, kdt⟩ ⟨rfl, k0, v0, hkv0, rfl⟩
      obtain ⟨⟨wr, ps⟩, hA, hk0, _⟩ := pd_get kdp hkv0
      dsimp only at hk0
      subst hk0
      obtain ⟨vl, hvl, lp, rfl, hlp⟩ := RO.some_of (kdp.val wr) (look_of_mem ndA (List.mem_of_getElem? hA))
      obtain ⟨hW3', hcwd⟩ := fr_at hW3
      have hpd3 := s3 _ _ (upd_same (H := Hc) (a := pd) (o := HO.frz od (.dK kvp)))
      have hjA : j < A.length := (List.getElem?_eq_some_iff.mp hA).1
      refine ⟨_, rfl, wd, rfl, .inl ⟨kw3, .inl hW3'⟩, _, rfl, Nat.zero_le _, fun e2 he2 => ?_⟩
      have q1 := same_new (o := HO.lst []) he2
      refine ⟨_, DGet.k (k := Sum.inr wr) (q1 _ _ hW3'), ?_⟩
      have dom : ∀ {H' : Hp}, Same H4 H' → ∀ {b : Addr}, H' b = none → Hc b = none := fun {H'} sm {b} hb => by
        have z : (upd Hc pd (.frz od (.dK kvp))) b = none := (s3.trans sm).free hb
        have ne : b ≠ pd := fun y => by rw [y, upd_same] at z; cases z
        rw [upd_ne ne] at z
        exact z
      have hce2 := dom (Same.refl H4) he2
      have h0e2 : H0 e2 = none := s0.free hce2
      obtain ⟨l1, xs1, el1, hl1, pr1⟩ : RowsV (fr (upd H4 e2 (.lst [])) H0) ((valV kw3 (Sum.inr wr : Key)).getD (.ref e2)) ((look ((A.take j).foldl (addP m) ((look tab f).getD [])) wr).getD []) :=
        RO.getD ((kdw.mono fun _ _ z => z.mono (fr_ts (sTS q1)) (fr_ls (sLS q1))).val wr) ⟨e2, [], rfl, fr_in upd_same h0e2, .nil⟩
      refine ⟨_, rfl, _, rfl, _, rfl, pd, .ref lp, rfl, .inl ⟨kvp, Sum.inr wr, .inr ⟨od, q1 _ _ hpd3⟩, rfl, hvl.symm⟩, (by show 2 ≤ sizeLine; decide), fun t ht => ?_⟩
      have q2 := same_new (o := HO.tup [.int m, .ref lp]) ht
      refine ⟨(by show 1 ≤ sizeLine; decide), fun b hb => ?_⟩
      have q3 := same_new (o := HO.lst [.ref t]) hb
      have hl1' := (fr_at hl1).1
      have hrl : ((look ((A.take j).foldl (addP m) ((look tab f).getD [])) wr).getD []).length ≤ B + A.length := by
        have h1 := addP_rows m wr (A.take j) ((look tab f).getD [])
        have h2 : ((look ((look tab f).getD []) wr).getD []).length ≤ B := (sz.2 f).2 wr
        have h3 : (A.take j).length ≤ A.length := by rw [List.length_take]; omega
        omega
      refine ⟨l1, b, xs1, [.ref t], el1, rfl, q3 _ _ (q2 _ _ hl1'), upd_same, size_line (by rw [pd_len pr1]; show _ + 1 ≤ _; omega), fun g hg => ?_⟩
      have q4 := same_new (o := HO.lst (xs1 ++ [.ref t])) hg
      have qa := (q1.trans (q2.trans q3)).trans q4
      have hWg := qa _ _ hW3'
      have hct := dom q1 ht
      have hcg := dom (q1.trans (q2.trans q3)) hg
      have hwl : kw3.length ≤ B + A.length := by
        rw [pd_len kdw]
        have h1 := addP_len m (A.take j) ((look tab f).getD [])
        have h2 := (sz.2 f).1
        have h3 : (A.take j).length ≤ A.length := by rw [List.length_take]; omega
        omega
      refine ⟨_, rfl, _, rfl, wd, _, rfl, DPut.k (k := Sum.inr wr) hWg (size_lt (by omega)), ?_⟩
      have h0wd : H0 wd = none := s0.free hcwd
      have hA1 : (A.take (j + 1)).foldl (addP m) ((look tab f).getD []) = addP m ((A.take j).foldl (addP m) ((look tab f).getD [])) (wr, ps) := foldl_take _ _ _ hA
      -- the rows in the new heap
      have tsq : TS (fr H4 H0) (fr (upd (upd (upd (upd (upd H4 e2 (.lst [])) t (.tup [.int m, .ref lp])) b (.lst [.ref t])) g (.lst (xs1 ++ [.ref t]))) wd (.dK (putK kw3 (Sum.inr wr) (.ref g)))) H0) := fr_ts (TS.trans (sTS qa) (ts_dK hWg))
      have lsq : LS (fr H4 H0) (fr (upd (upd (upd (upd (upd H4 e2 (.lst [])) t (.tup [.int m, .ref lp])) b (.lst [.ref t])) g (.lst (xs1 ++ [.ref t]))) wd (.dK (putK kw3 (Sum.inr wr) (.ref g)))) H0) := fr_ls (LS.trans (sLS qa) (ls_dK hWg))
      have ts1 : TS (fr (upd H4 e2 (.lst [])) H0) (fr (upd (upd (upd (upd (upd H4 e2 (.lst [])) t (.tup [.int m, .ref lp])) b (.lst [.ref t])) g (.lst (xs1 ++ [.ref t]))) wd (.dK (putK kw3 (Sum.inr wr) (.ref g)))) H0) := fr_ts (TS.trans (sTS ((q2.trans q3).trans q4)) (ts_dK hWg))
      have ls1 : LS (fr (upd H4 e2 (.lst [])) H0) (fr (upd (upd (upd (upd (upd H4 e2 (.lst [])) t (.tup [.int m, .ref lp])) b (.lst [.ref t])) g (.lst (xs1 ++ [.ref t]))) wd (.dK (putK kw3 (Sum.inr wr) (.ref g)))) H0) := fr_ls (LS.trans (sLS ((q2.trans q3).trans q4)) (ls_dK hWg))
      have lsp : LS (fr Hc H0) (fr H4 H0) := fr_ls (LS.trans (ls_dK hP) (sLS s3))
      have kdw2 : KD (RowsV (fr (upd (upd (upd (upd (upd H4 e2 (.lst [])) t (.tup [.int m, .ref lp])) b (.lst [.ref t])) g (.lst (xs1 ++ [.ref t]))) wd (.dK (putK kw3 (Sum.inr wr) (.ref g)))) H0)) (putK kw3 (Sum.inr wr) (.ref g)) ((A.take (j + 1)).foldl (addP m) ((look tab f).getD [])) := by
        rw [hA1]
        refine KD.put (kdw.mono fun _ _ z => z.mono tsq lsq) (addP_nd m _ _ (tnd.2 f)) ?_
        refine ⟨g, xs1 ++ [.ref t], rfl, fr_in (upd_oth upd_same (ne_of upd_same hWg (by intro z; cases z))) (s0.free hcg), ?_⟩
        refine pd_snoc ⟨t, lp, rfl, ?_, ?_⟩ (Paired.mapP pr1 fun _ _ z => z.mono ts1 ls1)
        · refine fr_in (upd_oth (q4 _ _ (q3 _ _ upd_same)) (ne_of (q4 _ _ (q3 _ _ upd_same)) hWg (by intro z; cases z))) (s0.free hct)
        · exact lsq _ _ (lsp _ _ hlp)
      refine ⟨some (.str wr), putK kw3 (Sum.inr wr) (.ref g), rfl, same_at (s3.trans qa) ?_, ?_, ?_, kdw2, ?_⟩
      · have ne : wd ≠ pd := fun z => by rw [z] at hcwd; exact hcpd hcwd
        rw [upd_ne ne]
        exact hcwd
      · rw [fr_upd hcwd]
        exact upd_oth (fr_same qa _ _ hK3) (Ne.symm wne)
      · rw [fr_upd hcwd, upd_same]
      · have e3 : (alt tab f fun o => (A.take (j + 1)).foldl (addP m) (o.getD [])) = alt (alt tab f fun o => (A.take j).foldl (addP m) (o.getD [])) f fun _ => (A.take (j + 1)).foldl (addP m) ((look tab f).getD []) := by
          rw [alt_alt]
          exact alt_congr rfl
        rw [e3]
        have kdt2 : KD (WordsV (fr (upd (upd (upd (upd H4 e2 (.lst [])) t (.tup [.int m, .ref lp])) b (.lst [.ref t])) g (.lst (xs1 ++ [.ref t]))) Hc) (fr (upd (upd (upd (upd (upd H4 e2 (.lst [])) t (.tup [.int m, .ref lp])) b (.lst [.ref t])) g (.lst (xs1 ++ [.ref t]))) wd (.dK (putK kw3 (Sum.inr wr) (.ref g)))) H0)) kvs2 (alt tab f fun o => (A.take j).foldl (addP m) (o.getD [])) := kdt.mono fun _ _ z => z.mono (fr_same qa) tsq lsq
        rw [fr_upd hcwd]
        exact kd_at ⟨wd, _, rfl, upd_same, kdw2⟩ kdt2 nd2 hkv
    · rintro σ H3 ⟨v5, kw3, rfl, s3, hK3, hW3, kdw, kdt⟩
      have hpd3 := s3 _ _ (upd_same (H := Hc) (a := pd) (o := HO.frz od (.dK kvp)))
      refine ⟨hpd3, k _ ?_ ?_⟩
      · intro b u hb
        by_cases z : b = pd
        · rw [z] at hb ⊢
          rw [upd_same]
          exact hP.symm.trans hb
        · rw [upd_ne z]
          refine s3 _ _ ?_
          rw [upd_ne z]
          exact hb
      · rw [fr_upd_old hcpd]
        have e : A.take kvp.length = A := by rw [pd_len kdp, List.take_length]
        rw [e] at kdt
        have e4 : putF' m tab (f, n, A) = alt tab f fun o => A.foldl (addP m) (o.getD []) := rfl
        rw [e4]
        exact ⟨kvs2, hK3, kdt.mono fun _ _ z => z.mono (Same.refl _) (fr_ts (ts_frz hpd3)) (fr_ls (ls_frz hpd3)), nd2, ntb2⟩
end
end KP
namespace KP
open PySem L2
section
variable {P : Program} {w : World} {K : PySem.W.Frag} {mg : Str → Option Value} {base : Heap}
/-! Piece.__init__ -/
def spInit (C : Addr) : Sp := fun vs H Q _ => ∃ (H0 : Hp) (x dx a : Addr) (ms : Makes), vs = [.ref x, .ref a] ∧ H0 x = none ∧ H0 dx = none ∧ dx ≠ x ∧ H = upd (upd H0 dx (.own x)) x (.ins C dx []) ∧ MakesAt H0 a ms ∧ MakesOk ms ∧
  ∀ H', Same H0 H' → PieceAt (fr H' H0) C x ms → Q .non H'
/-- the defs that making a Piece calls -/
structure Defs (K : PySem.W.Frag) (mg : Str → Option Value) (C fnm fld fle fwo flm fco fti : Addr) (dnm dld dle dwo dlm dco dti : FuncData) : Prop where
  isName : DefAt K mg "is_name" sIsName ["text"] fnm dnm
  lookDoc : DefAt K mg "look_at_document" sLookDoc ["document"] fld dld
  lowered : DefAt K mg "lowered" sLowered ["sign"] fle dle
  wordsOf : DefAt K mg "words_of" sWordsOf ["text"] fwo dwo
  lookMakes : DefAt K mg "look_at_makes" sLookMakes ["makes"] flm dlm
  counted : DefAt K mg "counted" sCounted ["document"] fco dco
  takeIn : Fun K "take_in" "Piece.take_in" sTakeIn fti dti
  takeInB : Binds K dti ["self", "field", "make", "places"] []
  takeInM : Meth K C "take_in" fti
theorem scInit : FnScope ["self", "makes", "make", "document", "field", "many", "places"] ["self", "makes"] (defScope sInit) := ⟨rfl, rfl, rfl, by decide +kernel, rfl, by decide +kernel, by decide +kernel⟩
theorem ok_init {f C fnm fld fle fwo flm fco fti : Addr} {fd dnm dld dle dwo dlm dco dti : FuncData} (F : Fun K "__init__" "Piece.__init__" sInit f fd) (T : Txt K mg C) (Z : Defs K mg C fnm fld fle fwo flm fco fti dnm dld dle dwo dlm dco dti) :
    FnOk P w K mg base CX0 4 f fd ["self", "makes"] (spInit C) := by
  have GM : FnOk P w K mg base CX0 3 flm dlm ["makes"] spLookMakes := ok_lookMakes Z.lookMakes.fn T Z.isName Z.lookDoc
  have GC : FnOk P w K mg base CX0 3 fco dco ["document"] spCounted := ok_counted Z.counted.fn T Z.lowered Z.wordsOf
  have GT : FnOk P w K mg base CX0 1 fti dti ["self", "field", "make", "places"] (spTakeIn C) := ok_takeIn Z.takeIn T
  refine F.ok scInit (fun vs H Q E h => ?_) (fun cdv A outer s H vs Q E hr h => ?_)
  · obtain ⟨_, _, _, _, _, rfl, _⟩ := h
    rfl
  · obtain ⟨H0, x, dx, a, ms, rfl, hx0, hdx0, hne, rfl, ⟨xs, hA, pd⟩, mk, k⟩ := h
    have hu := hu_of hr
    have hr1 : Room 1 _ := hr.mono (by decide)
    have sA : Same H0 (upd (upd H0 dx (.own x)) x (.ins C dx [])) := fun b o e => upd_oth (upd_old e hdx0) (ne_of_none e hx0)
    refine ⟨_, pss_cons (ps_expr (pe_call GM hr rfl Z.lookMakes.at_ Z.lookMakes.fn.kp Z.lookMakes.bd .nil pass0 (pa_cons (pv 1) pa_nil)))
      (pss_cons (ps_fld (pv 0) (pe_lc (own := [("make", 2), ("document", 3)]) (g := gTup K 2 (gCons (gName 2) (gCons (gName 3) gNil))) (tt := tYes) (te := tVar 2) rfl scInit.nd (pi_list (pv 1)) (blkOk_by (N := ["self", "makes", "make", "document", "field", "many", "places"]) (sc := defScope sInit) (by decide +kernel))
          (fun _ _ _ _ _ => pg_tup rfl (pgs_cons (pg_name (i := 2) scInit.nd rfl (Or.inl rfl)) (pgs_cons (pg_name (i := 3) scInit.nd rfl (Or.inl rfl)) pgs_nil))) (fun _ _ _ _ _ => pts_nil) (fun _ _ _ _ _ => pv 2)) rfl)
      (pss_cons (ps_fld (pv 0) pe_dnewT rfl)
      (pss_cons (ps_fld (pv 0) pe_dnewK rfl)
      (pss_one (ps_for PassesOwn.never rfl (pi_list (pv 1)) (pg_tup rfl (pgs_cons (pg_name (i := 2) scInit.nd rfl (Or.inl rfl)) (pgs_cons (pg_name (i := 3) scInit.nd rfl (Or.inl rfl)) pgs_nil)))
        (pss_one (ps_for PassesOwn.never rfl (pi_items (pe_frz (pe_call GC hr rfl Z.counted.at_ Z.counted.fn.kp Z.counted.bd .nil pass0 (pa_cons (pv 3) pa_nil))))
            (pg_tup rfl (pgs_cons (pg_name (i := 4) scInit.nd rfl (Or.inl rfl)) (pgs_cons (pg_tup rfl (pgs_cons (pg_name (i := 5) scInit.nd rfl (Or.inl rfl)) (pgs_cons (pg_name (i := 6) scInit.nd rfl (Or.inl rfl)) pgs_nil))) pgs_nil)))
          (pss_cons (ps_dput hu (pe_fld (pv 0) rfl) (pe_tup (pa_cons (pv 2) (pa_cons (pv 4) pa_nil))) (pv 5) rfl)
          (pss_one (ps_expr (pe_meth (pv 0) T.cl Z.takeInM GT hr1 Z.takeInB .nil pass0 (pa_cons (pv 4) (pa_cons (pv 2) (pa_cons (pv 6) pa_nil)))))))))))))), ?_⟩
    -- look_at_makes
    refine ⟨_, rfl, a, ms, rfl, ⟨xs, sA _ _ hA, Paired.mapP pd fun _ _ z => z.mono (sTS sA) (sLS sA)⟩, mk, fun H1 s1 => ?_⟩
    have s01 := sA.trans s1
    have hx1 := s1 _ _ (upd_same (H := upd H0 dx (.own x)) (a := x) (o := HO.ins C dx []))
    -- held_makes
    refine ⟨_, rfl, a, rfl, ⟨xs, SqL.of (s01 _ _ hA)⟩, fun hl hhl => lc_it walk_list (fun i H2 => Same H1 H2 ∧ H2 hl = some (.lst ((ms.take i).map fun p => V.int p.1)))
      ⟨same_new hhl, upd_same⟩ (fun i H2 _ h => SqL.of (h.1 _ _ (s01 _ _ hA))) ?_ ?_⟩
    · rintro i y H2 H3 hi ⟨sm, hL⟩ ⟨rfl, hy⟩
      obtain ⟨md, hmd, p, da, rfl, hp, _⟩ := pd_get pd hy
      refine ⟨p, _, rfl, SqT.of (sm _ _ (s01 _ _ hp)), rfl, _, _, rfl, _, _, rfl, rfl, rfl, ?_⟩
      refine ⟨_, rfl, _, hL, size_lt (by rw [List.length_map, List.length_take]; have := mk.len; omega), same_at sm hhl, ?_⟩
      have e : ms.take (i + 1) = ms.take i ++ [md] := by rw [List.take_add_one, hmd]; rfl
      rw [upd_same, e, List.map_append]
      rfl
    rintro H2 ⟨s2, hL⟩
    have eL : ms.take xs.length = ms := by rw [pd_len pd, List.take_length]
    rw [eL] at hL
    have hx2 := s2 _ _ hx1
    have hl0 : H0 hl = none := s01.free hhl
    refine ⟨_, rfl, x, C, dx, _, rfl, hx2, T.cl, T.nH, (by show 0 < 1000; decide), ?_⟩
    rw [flds1]
    have nlx : hl ≠ x := ne_of hL hx2 (by intro z; cases z)
    -- lengths
    intro ld hld
    have hx3 : (upd (upd H2 x (.ins C dx [("held_makes", .ref hl)])) ld (.dT [])) x = some (.ins C dx [("held_makes", .ref hl)]) := upd_old upd_same hld
    have nld : ld ≠ x := fun z => by rw [z, upd_same] at hld; cases hld
    have hld2 : H2 ld = none := by rw [upd_ne nld] at hld; exact hld
    have hld0 : H0 ld = none := (s01.trans s2).free hld2
    have nlh : hl ≠ ld := ne_of_none hL hld2
    refine ⟨_, rfl, x, C, dx, _, rfl, hx3, T.cl, T.nL, (by show 1 < 1000; decide), ?_⟩
    rw [flds2]
    -- table
    intro tb htb
    have ntx : tb ≠ x := fun z => by rw [z, upd_same] at htb; cases htb
    have htb1 : (upd (upd H2 x (.ins C dx [("held_makes", .ref hl)])) ld (.dT [])) tb = none := by rw [upd_ne ntx] at htb; exact htb
    have ntl : tb ≠ ld := fun z => by rw [z, upd_same] at htb1; cases htb1
    have htb2 : H2 tb = none := by rw [upd_ne ntl, upd_ne ntx] at htb1; exact htb1
    have htb0 : H0 tb = none := (s01.trans s2).free htb2
    have nth : hl ≠ tb := ne_of_none hL htb2
    refine ⟨_, rfl, x, C, dx, _, rfl, upd_old upd_same htb, T.cl, T.nT, (by show 2 < 1000; decide), ?_⟩
    rw [flds3]
    -- the frame
    obtain ⟨Hc, hHc⟩ : ∃ Hc, Hc = upd (upd H2 ld (.dT [])) x (.ins C dx (flds hl ld tb)) := ⟨_, rfl⟩
    obtain ⟨HS, hHS⟩ : ∃ HS, HS = upd (upd (upd (upd (upd H2 x (.ins C dx [("held_makes", .ref hl)])) ld (.dT [])) x (.ins C dx [("held_makes", .ref hl), ("lengths", .ref ld)])) tb (.dK [])) x (.ins C dx (flds hl ld tb)) := ⟨_, rfl⟩
    rw [← hHS]
    have scS : Same Hc HS := fun b o e => by
      rw [hHc] at e
      rw [hHS]
      by_cases zx : b = x
      · rw [zx, upd_same] at e ⊢; exact e
      · rw [upd_ne zx] at e ⊢
        by_cases zl : b = ld
        · rw [zl, upd_same] at e
          rw [zl, upd_ne (Ne.symm ntl), upd_ne nld, upd_same]; exact e
        · rw [upd_ne zl] at e
          have zt : b ≠ tb := ne_of_none e htb2
          rw [upd_ne zt, upd_ne zx, upd_ne zl, upd_ne zx]; exact e
    have s0c : Same H0 Hc := fun b o e => by
      rw [hHc]
      exact upd_oth (upd_old ((s01.trans s2) _ _ e) hld2) (ne_of_none e hx0)
    have hcx : Hc x = some (.ins C dx (flds hl ld tb)) := by rw [hHc, upd_same]
    have hcl : Hc hl = some (.lst (ms.map fun p => V.int p.1)) := by rw [hHc, upd_ne nlx, upd_ne nlh]; exact hL
    have hcd : Hc ld = some (.dT []) := by rw [hHc, upd_ne nld, upd_same]
    have hct : Hc tb = none := by rw [hHc, upd_ne ntx, upd_ne ntl]; exact htb2
    have hSt : HS tb = some (.dK []) := by rw [hHS, upd_ne ntx, upd_same]
    clear hHc hHS
    refine ⟨_, rfl, a, rfl, ⟨xs, SqL.of ((s0c.trans scS) _ _ hA)⟩, for_it walk_list
      (fun i σ H4 => ∃ (Hc : Hp) (v2 v3 v4 v5 v6 : Option V), σ = [some (.ref x), some (.ref a), v2, v3, v4, v5, v6] ∧ Same H0 Hc ∧ Same Hc H4 ∧ Hc x = some (.ins C dx (flds hl ld tb)) ∧ Hc hl = some (.lst (ms.map fun p => V.int p.1)) ∧
        Hc ld = some (.dT (kvL (lensOf (ms.take i)))) ∧ TabI (fr H4 Hc) (fr H4 H0) tb (tabOf (ms.take i)) ∧ TabNd (tabOf (ms.take i)) ∧ SZ (tabOf (ms.take i)) (i * 20040))
      ⟨Hc, none, none, none, none, none, rfl, s0c, scS, hcx, hcl, hcd, ⟨[], fr_in hSt hct, .nil, List.nodup_nil, by simp⟩, TabNd.nil, SZ.nil⟩
      (fun i σ H4 _ ⟨_, _, _, _, _, _, _, q0, q1, _⟩ => SqL.of (q1 _ _ (q0 _ _ hA))) ?_ ?_⟩
    · clear scS s0c hcx hcl hcd hct hSt
      rintro i y σ H4o H4 hi ⟨Hc, v2, v3, v4, v5, v6, rfl, s0c, sc4, hcx, hcl, hcd, ti, tnd, sz⟩ ⟨rfl, hy⟩
      obtain ⟨⟨m, d⟩, hmd, p, da, rfl, hp, hda⟩ := pd_get pd hy
      dsimp only at hp hda
      have hmem := List.mem_of_getElem? hmd
      have dk : DocOk d := mk.docs _ hmem
      have s04 := s0c.trans sc4
      have hi40 : i < 40 := by have := (List.getElem?_eq_some_iff.mp hmd).1; have := mk.len; omega
      refine ⟨p, _, rfl, SqT.of (s04 _ _ hp), rfl, _, _, rfl, _, _, rfl, rfl, ?_⟩
      refine ⟨_, rfl, da, d, rfl, hda.mono (sTS s04) (sLS s04), dk, fun cd kvc H5 s5 hcd4 hcd5 cnt => ⟨cd, _, rfl, hcd5, trivial, fun od => ?_⟩⟩
      have hccd : Hc cd = none := sc4.free hcd4
      have hcd0 : H0 cd = none := s0c.free hccd
      -- the frame with what counted has made
      obtain ⟨Hd, hHd⟩ : ∃ Hd, Hd = upd (gr Hc H4 H5) cd (.frz od (.dK kvc)) := ⟨_, rfl⟩
      have sd : Same Hc Hd := by rw [hHd]; exact same_at (gr_same sc4) hccd
      have sd5 : Same Hd (upd H5 cd (.frz od (.dK kvc))) := fun b o e => by
        rw [hHd] at e
        by_cases z : b = cd
        · rw [z, upd_same] at e ⊢; exact e
        · rw [upd_ne z] at e ⊢; exact gr_sub sc4 s5 _ _ e
      have hgcd : gr Hc H4 H5 cd ≠ none := by rw [gr_new hcd4, hcd5]; intro z; cases z
      have hDcd : Hd cd = some (.frz od (.dK kvc)) := by rw [hHd, upd_same]
      have efr : fr (upd H5 cd (.frz od (.dK kvc))) Hd = fr H4 Hc := by
        rw [fr_upd_old (by rw [hDcd]; intro z; cases z), hHd, fr_dom hgcd, fr_gr sc4 s5]
      have t45 : TS H4 (upd H5 cd (.frz od (.dK kvc))) := TS.trans (sTS s5) (ts_dK hcd5)
      have l45 : LS H4 (upd H5 cd (.frz od (.dK kvc))) := LS.trans (sLS s5) (ls_dK hcd5)
      have ti5 : TabI (fr (upd H5 cd (.frz od (.dK kvc))) Hd) (fr (upd H5 cd (.frz od (.dK kvc))) H0) tb (tabOf (ms.take i)) := by
        rw [efr]
        exact ti.monoR (fr_ts t45) (fr_ls l45)
      -- what counted tells stands in the frame, new
      have sCnt : Same (fr H5 (upd H4 cd (.dK []))) (fr Hd H0) := fun b u h => by
        obtain ⟨h1, h2⟩ := fr_at h
        have nb : b ≠ cd := fun z => by rw [z, upd_same] at h2; cases h2
        rw [upd_ne nb] at h2
        refine fr_in ?_ (s04.free h2)
        rw [hHd, upd_ne nb, gr_new h2]
        exact h1
      have cnt5 : KD (Cnt (fr Hd H0)) kvc (counted d) := cnt.mono fun _ _ z => z.mono sCnt
      have s0d := s0c.trans sd
      have hckl : (counted d).length ≤ 20 := Nat.le_trans (List.length_filterMap_le _ _) dk.len
      refine ⟨cd, od, kvc, rfl, upd_same, for_it walk_items
        (fun j σ H6 => ∃ (He : Hp) (v4 v5 v6 : Option V), σ = [some (.ref x), some (.ref a), some (.int m), some (.ref da), v4, v5, v6] ∧ Same H0 He ∧ Same He H6 ∧ He x = some (.ins C dx (flds hl ld tb)) ∧ He hl = some (.lst (ms.map fun p => V.int p.1)) ∧
          He ld = some (.dT (kvL (lensOf (ms.take i) ++ (lenRow m d).take j))) ∧ He cd = some (.frz od (.dK kvc)) ∧ KD (Cnt (fr He H0)) kvc (counted d) ∧
          TabI (fr H6 He) (fr H6 H0) tb (((counted d).take j).foldl (putF' m) (tabOf (ms.take i))) ∧ TabNd (((counted d).take j).foldl (putF' m) (tabOf (ms.take i))) ∧ SZ (((counted d).take j).foldl (putF' m) (tabOf (ms.take i))) (i * 20040 + j * 1002))
        ⟨Hd, v4, v5, v6, rfl, s0d, sd5, sd _ _ hcx, sd _ _ hcl, by rw [List.take_zero, List.append_nil]; exact sd _ _ hcd, hDcd, cnt5, ti5, tnd, sz⟩
        (fun j σ H6 _ ⟨_, _, _, _, _, _, q1, _, _, _, q2, _⟩ => q1 _ _ q2) ?_ ?_⟩
      · clear sd sd5 hDcd efr t45 l45 ti5 sCnt cnt5 s0d hHd hgcd
        rintro j y σ H6 H7 hj ⟨He, v4, v5, v6, rfl, s0e, se6, hex, hel, hed, hecd, cnt6, ti6, tnd6, sz6⟩ ⟨tt, y1, y2, rfl, htt, rfl, ey1, ey2⟩
        obtain ⟨kv, hkv, rfl⟩ := Option.map_eq_some_iff.mp ey1
        obtain ⟨kv', hkv', rfl⟩ := Option.map_eq_some_iff.mp ey2
        rw [hkv] at hkv'
        cases hkv'
        obtain ⟨⟨f, n, Ap⟩, hc, ek, tc, pdd, ev, htc, kvp, hpd, kdp⟩ := pd_get cnt6 hkv
        dsimp only at ek htc kdp ev
        obtain ⟨k1, v1⟩ := kv
        dsimp only at ek ev
        subst ek ev
        have q1 := same_new (o := HO.tup [kV (Sum.inr f : Key), V.ref tc]) htt
        have htc6 := q1 _ _ (se6 _ _ (fr_at htc).1)
        refine ⟨tt, _, rfl, SqT.of upd_same, rfl, _, _, rfl, _, _, rfl, tc, _, rfl, SqT.of htc6, rfl, _, _, rfl, _, _, rfl, rfl, rfl, ?_⟩
        have hex7 := q1 _ _ (se6 _ _ hex)
        have hed7 := q1 _ _ (se6 _ _ hed)
        refine ⟨_, rfl, _, rfl, x, C, dx, _, _, rfl, hex7, T.cl, T.nL, flds_l hl ld tb, _, rfl, _, rfl, (by show 2 ≤ sizeLine; decide), fun kt hkt => ?_⟩
        have q2 := same_new (o := HO.tup [V.int m, V.str f]) hkt
        have hed8 := q2 _ _ hed7
        have hlen : (lensOf (ms.take i) ++ (lenRow m d).take j).length ≤ 900 := by
          rw [List.length_append]
          have h1 := lensOf_len (ms.take i) fun p hp => (mk.docs p (List.mem_of_mem_take hp)).len
          have h2 : ((lenRow m d).take j).length ≤ (lenRow m d).length := by rw [List.length_take]; omega
          have h3 := lenRow_len m d
          have h4 : (ms.take i).length ≤ i := by rw [List.length_take]; omega
          have := dk.len
          omega
        refine ⟨ld, _, rfl, DPut.t (k := [Sum.inl m, Sum.inr f]) hed8 upd_same (size_lt (by rw [kvL_len]; omega)), ?_⟩
        -- a new key
        have hnew : look (lensOf (ms.take i) ++ (lenRow m d).take j) (m, f) = none := by
          rw [look_append, lens_notin (ms.take i) fun p hp => ?_]
          · exact lenRow_notin dk.nd hc
          · intro z
            obtain ⟨i', hi', e'⟩ := List.mem_iff_getElem.mp hp
            rw [List.length_take] at hi'
            rw [List.getElem_take] at e'
            have h1 := List.pairwise_iff_getElem.mp mk.rise i' i (by omega) (List.getElem?_eq_some_iff.mp hmd).1 (by omega)
            rw [e', (List.getElem?_eq_some_iff.mp hmd).2, z] at h1
            exact absurd h1 (Int.lt_irrefl _)
        have hput : putK (kvL (lensOf (ms.take i) ++ (lenRow m d).take j)) ([Sum.inl m, Sum.inr f] : List Key) (V.int (n : Nat)) = kvL (lensOf (ms.take i) ++ (lenRow m d).take (j + 1)) := by
          rw [putK_new _ (by rw [kvL_val, hnew]; rfl)]
          have e : (lenRow m d)[j]? = some ((m, f), n) := by unfold lenRow; rw [List.getElem?_map, hc]; rfl
          have e2 : (lenRow m d).take (j + 1) = (lenRow m d).take j ++ [((m, f), n)] := by rw [List.take_add_one, e]; rfl
          rw [e2, ← List.append_assoc]
          unfold kvL
          rw [List.map_append (l₂ := [((m, f), n)])]
          rfl
        rw [hput]
        obtain ⟨L2, hL2⟩ : ∃ L2, L2 = kvL (lensOf (ms.take i) ++ (lenRow m d).take (j + 1)) := ⟨_, rfl⟩
        rw [← hL2]
        have nxl : x ≠ ld := ne_of hex hed (by intro z; cases z)
        have hex9 : (upd (upd (upd H6 tt (.tup [kV (Sum.inr f : Key), V.ref tc])) kt (.tup [V.int m, V.str f])) ld (.dT L2)) x = some (.ins C dx (flds hl ld tb)) := upd_oth (q2 _ _ hex7) nxl
        refine ⟨_, rfl, x, dx, _, rfl, hex9, flds_no _ _ _ (by decide +kernel) (by decide +kernel) (by decide +kernel), _, rfl, _, rfl, _, rfl, ?_⟩
        -- the frame
        have hfe : ∀ {o : HO}, Same (upd He ld o) (upd (upd (upd H6 tt (.tup [kV (Sum.inr f : Key), V.ref tc])) kt (.tup [V.int m, V.str f])) ld o) := fun {o} b u e => by
          by_cases z : b = ld
          · rw [z, upd_same] at e ⊢; exact e
          · rw [upd_ne z] at e ⊢; exact q2 _ _ (q1 _ _ (se6 _ _ e))
        have hled : He ld ≠ none := by rw [hed]; intro z; cases z
        have h0ld : H0 ld = none := hld0
        have s0e2 : Same H0 (upd He ld (.dT L2)) := same_at s0e h0ld
        have ksd : KS (fr He H0) (fr (upd He ld (.dT L2)) H0) := fr_ks (ks_dT hed)
        have tsd : TS (fr He H0) (fr (upd He ld (.dT L2)) H0) := fr_ts (ts_dT hed)
        have lsd : LS (fr He H0) (fr (upd He ld (.dT L2)) H0) := fr_ls (ls_dT hed)
        have t69 : TS H6 (upd (upd (upd H6 tt (.tup [kV (Sum.inr f : Key), V.ref tc])) kt (.tup [V.int m, V.str f])) ld (.dT L2)) := TS.trans (sTS (q1.trans q2)) (ts_dT hed8)
        have l69 : LS H6 (upd (upd (upd H6 tt (.tup [kV (Sum.inr f : Key), V.ref tc])) kt (.tup [V.int m, V.str f])) ld (.dT L2)) := LS.trans (sLS (q1.trans q2)) (ls_dT hed8)
        have ti9 : TabI (fr (upd (upd (upd H6 tt (.tup [kV (Sum.inr f : Key), V.ref tc])) kt (.tup [V.int m, V.str f])) ld (.dT L2)) (upd He ld (.dT L2))) (fr (upd (upd (upd H6 tt (.tup [kV (Sum.inr f : Key), V.ref tc])) kt (.tup [V.int m, V.str f])) ld (.dT L2)) H0) tb (((counted d).take j).foldl (putF' m) (tabOf (ms.take i))) := by
          rw [fr_upd_old (by rw [upd_same]; intro z; cases z), fr_dom hled]
          exact ti6.mono (fr_same (q1.trans q2)) (fr_ts t69) (fr_ls l69)
        obtain ⟨hpd1, hpd2⟩ := fr_at hpd
        have hpde : (upd He ld (.dT L2)) pdd = some (.dK kvp) := upd_oth hpd1 (ne_of hpd1 hed (by intro z; cases z))
        have hAl : Ap.length ≤ 1001 := by
          have hm : (f, n, Ap) ∈ counted d := List.mem_of_getElem? hc
          obtain ⟨ft, hft, ec⟩ := List.mem_filterMap.mp hm
          unfold cntOf at ec
          split at ec
          · cases ec
          · have e' := (Option.some.inj ec).symm
            injection e' with _ e'
            injection e' with _ e'
            rw [e']
            have h1 := foldP_len (enumI (wordsL ft.2)) []
            rw [enumI_len] at h1
            have h2 := wordsL_len ft.2
            have h3 := (dk.tx ft hft).1
            have e0 : ([] : List (Str × List Int)).length = 0 := rfl
            show ((enumI (wordsL ft.2)).foldl stepP []).length ≤ 1001
            omega
        have hj20 : j < 20 := by have := (List.getElem?_eq_some_iff.mp hc).1; omega
        have hstep : ((counted d).take (j + 1)).foldl (putF' m) (tabOf (ms.take i)) = putF' m (((counted d).take j).foldl (putF' m) (tabOf (ms.take i))) (f, n, Ap) := foldl_take _ _ _ hc
        refine ⟨H0, upd He ld (.dT L2), x, dx, hl, ld, tb, pdd, m, (f, n, Ap), _, i * 20040 + j * 1002, kvp, rfl, s0e2, hfe, upd_oth hex nxl, ti9, tnd6, sz6, (by show i * 20040 + j * 1002 + Ap.length + 1 ≤ 1000000; omega), hpde, kdp.mono fun _ _ z => z.mono lsd,
          (counted_nd d _ (List.mem_of_getElem? hc)).1, fun H9 s9 ti10 => ?_⟩
        refine ⟨upd He ld (.dT L2), some (.str f), some (.int (n : Nat)), some (.ref pdd), rfl, s0e2, s9, upd_oth hex nxl, upd_oth hel (ne_of hel hed (by intro z; cases z)), by rw [upd_same, hL2], upd_oth hecd (ne_of hecd hed (by intro z; cases z)), cnt6.mono fun _ _ z => z.mono3 tsd ksd lsd, ?_, ?_, ?_⟩
        · rw [hstep]; exact ti10
        · rw [hstep]; exact putF_nd tnd6
        · rw [hstep]
          refine SZ.mono (putF_sz sz6) ?_
          show i * 20040 + j * 1002 + Ap.length + 1 ≤ _
          omega
      · rintro σ H6 ⟨He, v4, v5, v6, rfl, s0e, se6, hex, hel, hed, hecd, cnt6, ti6, tnd6, sz6⟩
        have ej : (counted d).take kvc.length = counted d := by rw [pd_len cnt6, List.take_length]
        have ej2 : (lenRow m d).take kvc.length = lenRow m d := by rw [pd_len cnt6, show (counted d).length = (lenRow m d).length from (List.length_map _).symm, List.take_length]
        rw [ej] at ti6 tnd6 sz6
        rw [ej2] at hed
        have etake : ms.take (i + 1) = ms.take i ++ [(m, d)] := by rw [List.take_add_one, hmd]; rfl
        have etab : tabOf (ms.take (i + 1)) = (counted d).foldl (putF' m) (tabOf (ms.take i)) := by
          unfold tabOf
          rw [foldl_take _ _ _ hmd]
          rfl
        refine ⟨He, some (.int m), some (.ref da), v4, v5, v6, rfl, s0e, se6, hex, hel, ?_, ?_, ?_, ?_⟩
        · rw [etake, lensOf_snoc]; exact hed
        · rw [etab]; exact ti6
        · rw [etab]; exact tnd6
        · rw [etab]
          refine SZ.mono sz6 ?_
          rw [pd_len cnt6]
          omega
    · rintro σ H4 ⟨Hc, v2, v3, v4, v5, v6, rfl, s0c, sc4, hcx, hcl, hcd, ti, tnd, sz⟩
      rw [eL] at hcd ti tnd sz
      refine k H4 (s0c.trans sc4) ⟨dx, hl, ld, tb, fr_in (sc4 _ _ hcx) hx0, fr_in (sc4 _ _ hcl) hl0, fr_in (sc4 _ _ hcd) hld0, ?_⟩
      exact ti.tabV.mono (fr_mono s0c) TS.refl LS.refl
end
end KP
namespace KP
open PySem L2
section
variable {P : Program} {w : World} {K : PySem.W.Frag} {mg : Str → Option Value} {base : Heap}
/-! the methods of a Piece that tell -/
theorem sz_tab : ∀ (ms : Makes) (tab : Tab) (B : Nat), (∀ p ∈ ms, DocOk p.2) → SZ tab B → SZ (ms.foldl tabP tab) (B + ms.length * 20040)
  | [], tab, B, _, h => by simpa using h
  | p :: ms, tab, B, hd, h => by
    have dk := hd p List.mem_cons_self
    have inner : ∀ (cs : List (Str × Nat × List (Str × List Int))) (tab : Tab) (B : Nat), (∀ c ∈ cs, c.2.2.length ≤ 1001) → SZ tab B → SZ (cs.foldl (putF' p.1) tab) (B + cs.length * 1002) := by
      intro cs
      induction cs with
      | nil => intro tab B _ h; simpa using h
      | cons c cs ih =>
        intro tab B hc h
        have h1 := ih _ _ (fun x hx => hc x (List.mem_cons_of_mem _ hx)) (putF_sz (m := p.1) (c := c) h)
        have h2 := hc c List.mem_cons_self
        refine SZ.mono h1 ?_
        rw [List.length_cons]
        omega
    have hA : ∀ c ∈ counted p.2, c.2.2.length ≤ 1001 := fun c hm => by
      obtain ⟨ft, hft, ec⟩ := List.mem_filterMap.mp hm
      unfold cntOf at ec
      split at ec
      · cases ec
      · have e' := (Option.some.inj ec).symm
        rw [e']
        have h1 := foldP_len (enumI (wordsL ft.2)) []
        rw [enumI_len] at h1
        have h2 := wordsL_len ft.2
        have h3 := (dk.tx ft hft).1
        have e0 : ([] : List (Str × List Int)).length = 0 := rfl
        show ((enumI (wordsL ft.2)).foldl stepP []).length ≤ 1001
        omega
    have h1 := inner (counted p.2) tab B hA h
    have h2 : (counted p.2).length ≤ 20 := Nat.le_trans (List.length_filterMap_le _ _) dk.len
    have h3 := sz_tab ms (tabP tab p) (B + 20040) (fun q hq => hd q (List.mem_cons_of_mem _ hq)) (h1.mono (by omega))
    refine SZ.mono h3 ?_
    rw [List.length_cons]
    omega
theorem sz_tabOf {ms : Makes} (mk : MakesOk ms) : SZ (tabOf ms) 900000 := by
  refine (sz_tab ms [] 0 mk.docs SZ.nil).mono ?_
  have := mk.len
  omega
def spMakes (C : Addr) : Sp := fun vs H Q _ => ∃ (x : Addr) (ms : Makes), vs = [.ref x] ∧ PieceAt H C x ms ∧ ∀ l, H l = none → Q (.ref l) (upd H l (.lst (ms.map fun p => V.int p.1)))
theorem scMakes : FnScope ["self"] ["self"] (defScope sMakes) := ⟨rfl, rfl, rfl, by decide +kernel, rfl, by decide +kernel, by decide +kernel⟩
theorem ok_makes {f C : Addr} {fd : FuncData} (F : Fun K "makes" "Piece.makes" sMakes f fd) (T : Txt K mg C) : FnOk P w K mg base CX0 1 f fd ["self"] (spMakes C) := by
  refine F.ok scMakes (fun vs H Q E h => ?_) (fun cdv A outer s H vs Q E hr h => ?_)
  · obtain ⟨_, _, rfl, _⟩ := h
    rfl
  · obtain ⟨x, ms, rfl, ⟨dx, hl, ld, tb, hx, hH, _, _⟩, k⟩ := h
    refine ⟨_, pss_one (ps_ret (pe_callTy (T := "list") call_list_of (by rfl) T.list (by decide +kernel) (pa_cons (pe_fld (pv 0) rfl) pa_nil))), ?_⟩
    exact ⟨_, rfl, x, C, dx, _, _, rfl, hx, T.cl, T.nH, flds_h hl ld tb, hl, _, rfl, .inl (SqL.of hH), k⟩
def spFields (C : Addr) : Sp := fun vs H Q _ => ∃ (x : Addr) (ms : Makes), vs = [.ref x] ∧ PieceAt H C x ms ∧ ∀ l, H l = none → Q (.ref l) (upd H l (.lst ((sortS ((tabOf ms).map (·.1))).map V.str)))
theorem scFields : FnScope ["self"] ["self"] (defScope sFields) := ⟨rfl, rfl, rfl, by decide +kernel, rfl, by decide +kernel, by decide +kernel⟩
theorem ok_fields {f C : Addr} {fd : FuncData} (F : Fun K "fields" "Piece.fields" sFields f fd) (T : Txt K mg C) : FnOk P w K mg base CX0 1 f fd ["self"] (spFields C) := by
  refine F.ok scFields (fun vs H Q E h => ?_) (fun cdv A outer s H vs Q E hr h => ?_)
  · obtain ⟨_, _, rfl, _⟩ := h
    rfl
  · obtain ⟨x, ms, rfl, ⟨dx, hl, ld, tb, hx, _, _, kvs, hK, kd⟩, k⟩ := h
    refine ⟨_, pss_one (ps_ret (pe_sortedK rfl rfl T.sorted (pe_fld (pv 0) rfl))), ?_⟩
    exact ⟨_, rfl, x, C, dx, _, _, rfl, hx, T.cl, T.nT, flds_t hl ld tb, tb, kvs, rfl, .inl hK, .inl ⟨_, kd.keys, k⟩⟩
def spWords (C : Addr) : Sp := fun vs H Q _ => ∃ (x : Addr) (ms : Makes) (f : Str), vs = [.ref x, .str f] ∧ PieceAt H C x ms ∧ ∀ (l : Addr) (H' : Hp), Same H H' → H l = none → H' l = some (.lst ((sortS (((look (tabOf ms) f).getD []).map (·.1))).map V.str)) → Q (.ref l) H'
theorem scWords : FnScope ["self", "field"] ["self", "field"] (defScope sWords) := ⟨rfl, rfl, rfl, by decide +kernel, rfl, by decide +kernel, by decide +kernel⟩
theorem ok_words {f C : Addr} {fd : FuncData} (F : Fun K "words" "Piece.words" sWords f fd) (T : Txt K mg C) : FnOk P w K mg base CX0 1 f fd ["self", "field"] (spWords C) := by
  refine F.ok scWords (fun vs H Q E h => ?_) (fun cdv A outer s H vs Q E hr h => ?_)
  · obtain ⟨_, _, _, rfl, _⟩ := h
    rfl
  · obtain ⟨x, ms, fld, rfl, ⟨dx, hl, ld, tb, hx, _, _, kvs, hK, kd⟩, k⟩ := h
    have hu := hu_of hr
    refine ⟨_, pss_one (ps_ret (pe_sortedK rfl rfl T.sorted (pe_dget2 hu (pe_fld (pv 0) rfl) (pv 1) pe_dnewK ⟨rfl, rfl, rfl, rfl⟩))), ?_⟩
    refine ⟨_, rfl, x, C, dx, _, _, rfl, hx, T.cl, T.nT, flds_t hl ld tb, tb, rfl, .inl ⟨kvs, .inl hK⟩, _, rfl, fun e he => ?_⟩
    have s1 := same_new (o := HO.dK []) he
    refine ⟨_, DGet.k (k := Sum.inr fld) (s1 _ _ hK), ?_⟩
    obtain ⟨wd, kw, e1, h1, h2⟩ : WordsV (upd H e (.dK [])) (upd H e (.dK [])) ((valV kvs (Sum.inr fld : Key)).getD (.ref e)) ((look (tabOf ms) fld).getD []) :=
      RO.getD ((kd.mono fun _ _ z => z.mono s1 (sTS s1) (sLS s1)).val fld) ⟨e, [], rfl, upd_same, .nil⟩
    refine ⟨wd, kw, e1, .inl h1, .inl ⟨_, h2.keys, fun p hp => k p _ (s1.trans (same_new hp)) (s1.free hp) upd_same⟩⟩
def spPostings (C : Addr) : Sp := fun vs H Q _ => ∃ (x : Addr) (ms : Makes) (f wr : Str), vs = [.ref x, .str f, .str wr] ∧ PieceAt H C x ms ∧ MakesOk ms ∧ ∀ (l : Addr) (ys : List V) (H' : Hp), Same H H' → H l = none → H' l = some (.lst ys) →
  Paired (RowV (fr H' (upd H l (.lst [])))) ys (rowsAt (tabOf ms) f wr) → Q (.ref l) H'
theorem scPostings : FnScope ["self", "field", "word"] ["self", "field", "word"] (defScope sPostings) := ⟨rfl, rfl, rfl, by decide +kernel, rfl, by decide +kernel, by decide +kernel⟩
theorem ok_postings {f C fc : Addr} {fd fdc : FuncData} (F : Fun K "postings" "Piece.postings" sPostings f fd) (T : Txt K mg C) (D : DefAt K mg "copied_postings" sCopied ["postings"] fc fdc) : FnOk P w K mg base CX0 2 f fd ["self", "field", "word"] (spPostings C) := by
  have GC : FnOk P w K mg base CX0 1 fc fdc ["postings"] spCopied := ok_copied D.fn T
  refine F.ok scPostings (fun vs H Q E h => ?_) (fun cdv A outer s H vs Q E hr h => ?_)
  · obtain ⟨_, _, _, _, rfl, _⟩ := h
    rfl
  · obtain ⟨x, ms, fld, wr, rfl, ⟨dx, hl, ld, tb, hx, _, _, kvs, hK, kd⟩, mk, k⟩ := h
    have hu := hu_of hr
    refine ⟨_, pss_one (ps_ret (pe_call GC hr rfl D.at_ D.fn.kp D.bd .nil pass0 (pa_cons (pe_dget2 hu (pe_dget2 hu (pe_fld (pv 0) rfl) (pv 1) pe_dnewK ⟨rfl, rfl, rfl, rfl⟩) (pv 2) (pe_lst pa_nil) ⟨rfl, rfl, rfl, rfl⟩) pa_nil))), ?_⟩
    refine ⟨_, rfl, x, C, dx, _, _, rfl, hx, T.cl, T.nT, flds_t hl ld tb, tb, rfl, .inl ⟨kvs, .inl hK⟩, _, rfl, fun e he => ?_⟩
    have s1 := same_new (o := HO.dK []) he
    refine ⟨_, DGet.k (k := Sum.inr fld) (s1 _ _ hK), ?_⟩
    obtain ⟨wd, kw, e1, h1, h2⟩ : WordsV (upd H e (.dK [])) (upd H e (.dK [])) ((valV kvs (Sum.inr fld : Key)).getD (.ref e)) ((look (tabOf ms) fld).getD []) :=
      RO.getD ((kd.mono fun _ _ z => z.mono s1 (sTS s1) (sLS s1)).val fld) ⟨e, [], rfl, upd_same, .nil⟩
    refine ⟨wd, e1, .inl ⟨kw, .inl h1⟩, _, rfl, Nat.zero_le _, fun e2 he2 => ?_⟩
    have s2 := same_new (o := HO.lst []) he2
    refine ⟨_, DGet.k (k := Sum.inr wr) (s2 _ _ h1), ?_⟩
    obtain ⟨l, xs, e3, h3, h4⟩ : RowsV (upd (upd H e (.dK [])) e2 (.lst [])) ((valV kw (Sum.inr wr : Key)).getD (.ref e2)) (rowsAt (tabOf ms) fld wr) :=
      RO.getD ((h2.mono fun _ _ z => z.mono (sTS s2) (sLS s2)).val wr) ⟨e2, [], rfl, upd_same, .nil⟩
    have hsz : (rowsAt (tabOf ms) fld wr).length ≤ 1000000 := Nat.le_trans (((sz_tabOf mk).2 fld).2 wr) (by decide)
    refine ⟨l, xs, _, congrArg (fun v => [v]) e3, h3, h4, hsz, fun D ys H' s' hD hD' py => ?_⟩
    have s12 := s1.trans s2
    refine k D ys H' (s12.trans s') (s12.free hD) hD' ?_
    refine Paired.mapP py fun _ _ z => ?_
    have sm : Same (upd H D (.lst [])) (upd (upd (upd H e (.dK [])) e2 (.lst [])) D (.lst [])) := fun b u hb => by
      by_cases q : b = D
      · rw [q, upd_same] at hb ⊢; exact hb
      · rw [upd_ne q] at hb ⊢; exact s12 _ _ hb
    exact z.mono (sTS (fr_mono sm)) (sLS (fr_mono sm))
def spLength (C : Addr) : Sp := fun vs H Q _ => ∃ (x : Addr) (ms : Makes) (m : Int) (f : Str), vs = [.ref x, .int m, .str f] ∧ PieceAt H C x ms ∧ ∀ H', Same H H' → Q (.int ((look (lensOf ms) (m, f)).getD 0 : Nat)) H'
theorem scLength : FnScope ["self", "make", "field"] ["self", "make", "field"] (defScope sLength) := ⟨rfl, rfl, rfl, by decide +kernel, rfl, by decide +kernel, by decide +kernel⟩
theorem ok_length {f C : Addr} {fd : FuncData} (F : Fun K "length" "Piece.length" sLength f fd) (T : Txt K mg C) : FnOk P w K mg base CX0 1 f fd ["self", "make", "field"] (spLength C) := by
  refine F.ok scLength (fun vs H Q E h => ?_) (fun cdv A outer s H vs Q E hr h => ?_)
  · obtain ⟨_, _, _, _, rfl, _⟩ := h
    rfl
  · obtain ⟨x, ms, m, fld, rfl, ⟨dx, hl, ld, tb, hx, _, hd, _⟩, k⟩ := h
    have hu := hu_of hr
    refine ⟨_, pss_one (ps_ret (pe_dget2 hu (pe_fld (pv 0) rfl) (pe_tup (pa_cons (pv 1) (pa_cons (pv 2) pa_nil))) pe_int ⟨rfl, rfl, rfl, rfl⟩)), ?_⟩
    refine ⟨_, rfl, x, C, dx, _, _, rfl, hx, T.cl, T.nL, flds_l hl ld tb, ld, rfl, .inr ⟨_, .inl hd⟩, _, rfl, _, rfl, (by show 2 ≤ sizeLine; decide), fun kt hkt => ?_⟩
    have s1 := same_new (o := HO.tup [V.int m, V.str fld]) hkt
    refine ⟨_, DGet.t (k := [Sum.inl m, Sum.inr fld]) (s1 _ _ hd) upd_same, ?_⟩
    rw [kvL_val]
    have e : (((look (lensOf ms) (m, fld)).map fun n => V.int (n : Nat)).getD (V.int 0)) = V.int ((look (lensOf ms) (m, fld)).getD 0 : Nat) := by
      cases look (lensOf ms) (m, fld) <;> rfl
    show Q (((look (lensOf ms) (m, fld)).map fun n => V.int (n : Nat)).getD (V.int 0)) _
    rw [e]
    exact k _ s1
end
end KP
namespace KP
open PySem L2
section
variable {P : Program} {w : World} {K : PySem.W.Frag} {mg : Str → Option Value} {base : Heap}
/-! _law_draws -/
def spDraws : Sp := fun vs H Q _ => ∃ (c : Int) (n : Nat) (b : Int) (fre : Bool), vs = [.int c, .int (n : Nat), .int b, .bl fre] ∧ n ≤ 1000 ∧ 0 < b ∧ b ≤ 1000 ∧
  ∀ (l : Addr) (ns : List Int) (H' : Hp), Same H H' → H l = none → H' l = some (.lst (ns.map V.int)) → ns.length = n → (∀ x ∈ ns, 0 ≤ x ∧ x < b) → Q (.ref l) H'
abbrev nDraws : List Str := ["_law_cell", "_law_many", "_law_base", "_law_free", "_law_found", "_law_rest", "_law_k", "_law_number"]
theorem scDraws : FnScope nDraws ["_law_cell", "_law_many", "_law_base", "_law_free"] (defScope sDraws) := ⟨rfl, rfl, rfl, by decide +kernel, rfl, by decide +kernel, by decide +kernel⟩
theorem ok_draws {f C : Addr} {fd : FuncData} (F : Fun K "_law_draws" "_law_draws" sDraws f fd) (T : Txt K mg C) : FnOk P w K mg base CX0 1 f fd ["_law_cell", "_law_many", "_law_base", "_law_free"] spDraws := by
  refine F.ok scDraws (fun vs H Q E h => ?_) (fun cdv A outer s H vs Q E hr h => ?_)
  · obtain ⟨_, _, _, _, rfl, _⟩ := h
    rfl
  · obtain ⟨c, n, b, fre, rfl, hn, hb0, hb1, k⟩ := h
    refine ⟨_, pss_cons (ps_set (i := 4) scDraws.nd rfl (Or.inl rfl) (pe_lst pa_nil))
      (pss_cons (ps_set (i := 5) scDraws.nd rfl (Or.inl rfl) (pv 0))
      (pss_cons (ps_for PassesOwn.never rfl (pi_range1 rfl T.range (pa_cons (pv 1) pa_nil)) (pg_name (i := 6) scDraws.nd rfl (Or.inl rfl))
        (pss_one (ps_if (PW.pt (pw_and (pt_val (pv 3)) (pw_and (pt_cmpR op_ge (pe_callB call_abs (by rfl) T.abs (by decide +kernel) (pa_cons (pv 0) pa_nil)) (pe_op op_pow pe_int pe_int) (nomark _))
              (pw_and (pt_cmpR op_ne (pv 5) pe_int (nomark _)) (pw_and1 (pt_cmpR op_ne (pv 5) (pe_un un_neg pe_int) (nomark _)))))))
          (pss_cons (ps_expr (pe_bm PySem.F.plainAttrs_list PySem.F.slot_list_append PySem.F.type_list_append mt_append (pv 4) (pa_cons (pe_op op_mod (pv 5) (pv 2)) pa_nil)))
            (pss_one (ps_set (i := 5) scDraws.nd rfl (Or.inl rfl) (pe_op op_fdiv (pv 5) (pv 2)))))
          (pss_cons (ps_set (i := 7) scDraws.nd rfl (Or.inl rfl) (pe_op op_mod (pe_op op_add (pv 0) (pe_op op_mul pe_int (pv 6))) pe_int))
          (pss_cons (ps_set (i := 7) scDraws.nd rfl (Or.inl rfl) (pe_op op_mod (pe_op op_add (pe_op op_mul (pv 7) (pv 7)) (pv 6)) pe_int))
          (pss_one (ps_expr (pe_bm PySem.F.plainAttrs_list PySem.F.slot_list_append PySem.F.type_list_append mt_append (pv 4) (pa_cons (pe_op op_mod (pe_op op_mod (pe_op op_mul (pv 7) (pv 7)) pe_int) (pv 2)) pa_nil)))))))))
      (pss_one (ps_ret (pv 4))))), ?_⟩
    refine ⟨Nat.zero_le _, fun l hl => ⟨_, rfl, ?_⟩⟩
    refine ⟨_, rfl, _, rfl, by omega, by omega, for_it walk_range
      (fun i σ H2 => ∃ (r : Int) (v6 v7 : Option V) (ns : List Int), σ = [some (.int c), some (.int (n : Nat)), some (.int b), some (.bl fre), some (.ref l), some (.int r), v6, v7] ∧ Same H H2 ∧ H2 l = some (.lst (ns.map V.int)) ∧ ns.length = i ∧ ∀ x ∈ ns, 0 ≤ x ∧ x < b)
      ⟨c, none, none, [], rfl, same_new hl, upd_same, rfl, fun x hx => absurd hx (by simp)⟩ (fun _ _ _ _ _ => trivial) ?_ ?_⟩
    · rintro i x σ H3 H2 hi ⟨r, v6, v7, ns, rfl, sm, hL, hlen, hns⟩ ⟨rfl, rfl⟩
      have hi2 : i < n := by simpa using hi
      have fin : ∀ (y r' : Int) (v7' : Option V), 0 ≤ y → y < b → ∃ (r : Int) (v6 v7 : Option V) (ms : List Int), [some (V.int c), some (.int (n : Nat)), some (.int b), some (.bl fre), some (.ref l), some (.int r'), some (.int (0 + (i : Nat))), v7'] = [some (V.int c), some (.int (n : Nat)), some (.int b), some (.bl fre), some (.ref l), some (.int r), v6, v7] ∧
          Same H (upd H2 l (.lst (ns.map V.int ++ [.int y]))) ∧ (upd H2 l (.lst (ns.map V.int ++ [.int y]))) l = some (.lst (ms.map V.int)) ∧ ms.length = i + 1 ∧ ∀ x ∈ ms, 0 ≤ x ∧ x < b := fun y r' v7' h0 h1 => by
        refine ⟨r', _, v7', ns ++ [y], rfl, same_at sm hl, by rw [upd_same, List.map_append]; rfl, by rw [List.length_append, hlen]; rfl, fun x hx => ?_⟩
        rcases List.mem_append.mp hx with q | q
        · exact hns x q
        · rw [List.mem_singleton.mp q]; exact ⟨h0, h1⟩
      have hsz : (ns.map V.int).length < sizeLine := size_lt (by rw [List.length_map]; omega)
      refine ⟨_, rfl, fre, rfl, ?_⟩
      refine ite2 (fun _ => ?_) (fun _ => iteF ?_)
      refine ⟨_, rfl, _, rfl, _, _, rfl, rfl, ⟨by decide, by decide, by decide⟩, _, _, rfl, rfl, _, rfl, ?_⟩
      refine ite2 (fun _ => ?_) (fun _ => iteF ?_)
      refine ⟨_, rfl, rfl, _, rfl, ?_⟩
      refine ite2 (fun _ => ?_) (fun _ => iteF ?_)
      refine ⟨_, rfl, _, rfl, rfl, _, rfl, ?_⟩
      refine ite2 (fun _ => ?_) (fun _ => ?_)
      · refine ⟨_, rfl, .inl ⟨rfl, _, SqL.of hL⟩, _, rfl, _, rfl, _, _, rfl, rfl, hb0, l, _, _, rfl, rfl, hL, hsz, ?_⟩
        refine ⟨_, rfl, _, rfl, _, _, rfl, rfl, ⟨hb0, by omega⟩, ?_⟩
        exact fin _ _ v7 (Int.emod_nonneg _ (by omega)) (Int.emod_lt_of_pos _ hb0)
      all_goals
        refine ⟨_, rfl, _, rfl, _, _, rfl, rfl, .inl ⟨by decide, by decide⟩, _, _, rfl, rfl, _, _, rfl, rfl, (by show (0 : Int) < 2147483629; decide), ?_⟩
        have hm0 := Int.emod_nonneg (c + 7919 * (0 + ((i : Nat) : Int))) (show (2147483629 : Int) ≠ 0 by decide)
        have hm1 := Int.emod_lt_of_pos (c + 7919 * (0 + ((i : Nat) : Int))) (show (0 : Int) < 2147483629 by decide)
        obtain ⟨m, hm⟩ : ∃ m, m = (c + 7919 * (0 + ((i : Nat) : Int))) % 2147483629 := ⟨_, rfl⟩
        rw [← hm] at hm0 hm1
        refine ⟨_, rfl, _, rfl, _, _, rfl, rfl, .inl (by show -(2 ^ 64) < (c + 7919 * (0 + ((i : Nat) : Int))) % 2147483629 ∧ _; rw [← hm]; omega), _, rfl, _, _, rfl, rfl, _, _, rfl, rfl, (by show (0 : Int) < 2147483629; decide), ?_⟩
        have hq0 := Int.emod_nonneg ((c + 7919 * (0 + ((i : Nat) : Int))) % 2147483629 * ((c + 7919 * (0 + ((i : Nat) : Int))) % 2147483629) + (0 + ((i : Nat) : Int))) (show (2147483629 : Int) ≠ 0 by decide)
        have hq1 := Int.emod_lt_of_pos ((c + 7919 * (0 + ((i : Nat) : Int))) % 2147483629 * ((c + 7919 * (0 + ((i : Nat) : Int))) % 2147483629) + (0 + ((i : Nat) : Int))) (show (0 : Int) < 2147483629 by decide)
        refine ⟨_, rfl, .inl ⟨rfl, _, SqL.of hL⟩, _, rfl, _, rfl, _, _, rfl, rfl, .inl ⟨by omega, by omega⟩, _, _, rfl, rfl, (by show (0 : Int) < 2147483587; decide), _, rfl, _, _, rfl, rfl, hb0, l, _, _, rfl, rfl, hL, hsz, ?_⟩
        exact fin _ _ _ (Int.emod_nonneg _ (by omega)) (Int.emod_lt_of_pos _ hb0)
    · rintro σ H2 ⟨r, v6, v7, ns, rfl, sm, hL, hlen, hns⟩
      exact ⟨_, rfl, k l ns H2 sm hl hL (by simpa using hlen) hns⟩
end
end KP
namespace KP
open PySem L2
section
variable {P : Program} {w : World} {K : PySem.W.Frag} {mg : Str → Option Value} {base : Heap}
/-! _law_text -/
theorem join_le (y : Str) : ∀ ps : List Str, (Str.join y ps).cps.size ≤ (ps.map (·.length)).sum + ps.length * y.length
  | [] => Nat.zero_le _
  | [x] => by show x.cps.size ≤ _; simp [Str.length]
  | x :: z :: r => by
    have ih := join_le y (z :: r)
    show (x.cps ++ y.cps ++ (Str.join y (z :: r)).cps).size ≤ _
    rw [Array.size_append, Array.size_append, List.map_cons, List.sum_cons, List.length_cons, Nat.succ_mul]
    have e1 : x.length = x.cps.size := rfl
    have e2 : y.length = y.cps.size := rfl
    omega
theorem join_mem (y : Str) {c : Nat} : ∀ ps : List Str, c ∈ (Str.join y ps).cps.toList → c ∈ y.cps.toList ∨ ∃ p ∈ ps, c ∈ p.cps.toList
  | [], h => absurd h (by show ¬ c ∈ (#[] : Array Nat).toList; simp)
  | [x], h => .inr ⟨x, by simp, h⟩
  | x :: z :: r, h => by
    have h' : c ∈ (x.cps ++ y.cps ++ (Str.join y (z :: r)).cps).toList := h
    rw [Array.toList_append, Array.toList_append] at h'
    rcases List.mem_append.mp h' with h1 | h1
    · rcases List.mem_append.mp h1 with h2 | h2
      · exact .inr ⟨x, by simp, h2⟩
      · exact .inl h2
    · rcases join_mem y (z :: r) h1 with h2 | ⟨p, hp, h2⟩
      · exact .inl h2
      · exact .inr ⟨p, List.mem_cons_of_mem _ hp, h2⟩
/-- a short plain text -/
def Sml (y : Str) : Prop := y.cps.size ≤ 4 ∧ ∀ c ∈ y.cps.toList, c < 128
theorem sml_join {y : Str} {ps : List Str} (hy : Sml y) (hp : ∀ p ∈ ps, Sml p) (hl : ps.length ≤ 25) : (ps.map (·.length)).sum + ps.length * y.length ≤ 16777216 ∧ (Txt.join y ps).cps.size ≤ 1000 ∧ ∀ c ∈ (Txt.join y ps).cps.toList, c < 128 := by
  have hs : ∀ ps : List Str, (∀ p ∈ ps, Sml p) → (ps.map (·.length)).sum ≤ ps.length * 4 := by
    intro ps
    induction ps with
    | nil => intro _; exact Nat.le_refl _
    | cons p r ih =>
      intro h
      have h1 := ih fun q hq => h q (List.mem_cons_of_mem _ hq)
      have h2 := (h p List.mem_cons_self).1
      rw [List.map_cons, List.sum_cons, List.length_cons]
      have e : p.length = p.cps.size := rfl
      omega
  have h1 := hs ps hp
  have h2 : y.length ≤ 4 := hy.1
  have h3 : ps.length * y.length ≤ 25 * 4 := Nat.mul_le_mul hl h2
  have h4 := join_le y ps
  rw [TL.join_eq]
  refine ⟨by omega, by omega, fun c hc => ?_⟩
  rcases join_mem y ps hc with q | ⟨p, hp', q⟩
  · exact hy.2 c q
  · exact (hp p hp').2 c q
def signs1 : Str := " !\"#$&'()*+,-./0123456789:;<=>?@ABCDEFGHIJKLMNOPQRSTUVWXYZ[\\]^_"
def signs2 : Str := "`abcdefghijklmnopqrstuvwxyz{|}~"
theorem signs_ok : (signs1 ++ signs2).cps.toList.all (· < 128) = true := by decide +kernel
theorem signs_len : (signs1 ++ signs2).length = 94 := by decide +kernel
def words12 : List Str := ["ab", "Ab", "b", "ba", "a1", "", "1", "abc", "b, a", "c", "A-B", "ab"]
theorem words12_ok : words12.all (fun y => decide (y.cps.size ≤ 4) && y.cps.toList.all (· < 128)) = true := by decide +kernel
theorem words12_sml {y : Str} (h : y ∈ words12) : Sml y := by
  have q := List.all_eq_true.mp words12_ok y h
  rw [Bool.and_eq_true] at q
  refine ⟨of_decide_eq_true q.1, fun c hc => ?_⟩
  exact of_decide_eq_true (List.all_eq_true.mp q.2 c hc)
def rIxK (K : PySem.W.Frag) : R2 := rIxL K
theorem ix_listK {X : Cx} {K : PySem.W.Frag} (h : X.K = K := by rfl) : IxR X (rIxL K) := by
  subst h
  exact ix_list
theorem cutV_mem {xs : List V} {lo hi : Option Int} {x : V} (h : x ∈ cutV xs lo hi) : x ∈ xs := List.mem_of_mem_drop (List.mem_of_mem_take h)
theorem at_nn {α : Type} {xs : List α} {d : Int} (h0 : 0 ≤ d) (h : d.toNat < xs.length) : atI xs d = some (xs[d.toNat]'h) := by
  have e : d = ((d.toNat : Nat) : Int) := by omega
  have q := atI_nat (xs := xs) (j := d.toNat) (v := xs[d.toNat]'h) (by simp [h])
  rw [← e] at q
  exact q
def spText : Sp := fun vs H Q _ => ∃ c : Int, vs = [.int c] ∧ ∀ (t : Str) (H' : Hp), Same H H' → t.cps.size ≤ 1000 → (∀ ch ∈ t.cps.toList, ch < 128) → Q (.str t) H'
abbrev nText : List Str := ["_law_cell", "_law_signs", "_law_digits", "_law_words_here", "_law_digit"]
theorem scText : FnScope nText ["_law_cell"] (defScope sText) := ⟨rfl, rfl, rfl, by decide +kernel, rfl, by decide +kernel, by decide +kernel⟩
theorem ok_text {f C fd0 : Addr} {fd fdd : FuncData} (F : Fun K "_law_text" "_law_text" sText f fd) (T : Txt K mg C) (D : DefAt K mg "_law_draws" sDraws ["_law_cell", "_law_many", "_law_base", "_law_free"] fd0 fdd) : FnOk P w K mg base CX0 2 f fd ["_law_cell"] spText := by
  have GD : FnOk P w K mg base CX0 1 fd0 fdd ["_law_cell", "_law_many", "_law_base", "_law_free"] spDraws := ok_draws D.fn T
  refine F.ok scText (fun vs H Q E h => ?_) (fun cdv A outer s H vs Q E hr h => ?_)
  · obtain ⟨_, rfl, _⟩ := h
    rfl
  · obtain ⟨c, rfl, k⟩ := h
    refine ⟨_, pss_cons (ps_if (pt_cmpR op_eq (pe_op op_mod (pv 0) pe_int) pe_int (nomark _))
        (pss_cons (ps_set (i := 1) scText.nd rfl (Or.inr rfl) pe_str)
        (pss_cons (ps_set (i := 1) scText.nd rfl (Or.inr rfl) (pe_op op_add_str (pv 1) pe_str))
        (pss_cons (ps_set (i := 2) scText.nd rfl (Or.inl rfl) (pe_call GD hr rfl D.at_ D.fn.kp D.bd .nil pass0 (pa_cons (pe_op op_fdiv (pv 0) pe_int) (pa_cons pe_int (pa_cons (pe_callB call_len_str (by rfl) T.len PySem.boot_len (pa_cons (pv 1) pa_nil)) (pa_cons pe_bl pa_nil))))))
        (pss_one (ps_ret (pe_join pe_str (pe_lc (own := [("_law_digit", 4)]) (g := gName 4) (tt := tYes) rfl scText.nd
            (pi_list (pe_slice sl_list (pv 2) (po_some pe_int) (po_some (pe_op op_add pe_int (pe_op op_mod (pe_ix ix_list (pv 2) pe_int (fun _ _ => rfl)) pe_int)))))
            (blkOk_by (N := nText) (sc := defScope sText) (by decide +kernel)) (fun _ _ _ _ _ => pg_name (i := 4) scText.nd rfl (Or.inl rfl)) (fun _ _ _ _ _ => pts_nil)
            (fun _ _ _ _ _ => pe_ix ix_str (pv 1) (pv 4) (fun _ _ => rfl)))))))))
        pss_nil)
      (pss_cons (ps_set (i := 2) scText.nd rfl (Or.inl rfl) (pe_call GD hr rfl D.at_ D.fn.kp D.bd .nil pass0 (pa_cons (pv 0) (pa_cons pe_int (pa_cons pe_int (pa_cons pe_bl pa_nil))))))
      (pss_cons (ps_set (i := 3) scText.nd rfl (Or.inr rfl) (pe_lst (pa_cons pe_str (pa_cons pe_str (pa_cons pe_str (pa_cons pe_str (pa_cons pe_str (pa_cons pe_str (pa_cons pe_str (pa_cons pe_str (pa_cons pe_str (pa_cons pe_str (pa_cons pe_str (pa_cons pe_str pa_nil))))))))))))))
      (pss_one (ps_ret (pe_join pe_str (pe_lc (own := [("_law_digit", 4)]) (g := gName 4) (tt := tYes) rfl scText.nd
            (pi_list (pe_slice sl_list (pv 2) (po_some pe_int) (po_some (pe_op op_add pe_int (pe_ix ix_list (pv 2) pe_int (fun _ _ => rfl))))))
            (blkOk_by (N := nText) (sc := defScope sText) (by decide +kernel)) (fun _ _ _ _ _ => pg_name (i := 4) scText.nd rfl (Or.inl rfl)) (fun _ _ _ _ _ => pts_nil)
            (fun _ _ _ _ _ => pe_ix (ix_listK (K := K)) (pv 3) (pv 4) (fun _ _ => rfl)))))))), ?_⟩
    refine ⟨_, rfl, _, _, rfl, rfl, (by show (0 : Int) < 2; decide), rfl, _, rfl, ?_⟩
    refine ite2 (fun _ => ?_) (fun _ => ?_)
    · refine ⟨_, rfl, _, _, rfl, rfl, (by decide +kernel), ?_⟩
      show tSeq _ _ _ (List.set _ 1 (some (V.str (signs1 ++ signs2)))) H
      refine ⟨_, rfl, _, _, rfl, rfl, ⟨by decide, by decide⟩, _, rfl, _, rfl, by rw [signs_len]; exact size_line (by decide), ?_⟩
      refine ⟨_, 25, _, true, rfl, by decide, by rw [signs_len]; decide, by rw [signs_len]; decide, fun l ns H1 s1 hl hL hlen hns => ?_⟩
      obtain ⟨n0, hn0⟩ : ∃ n0, ns[0]? = some n0 := ⟨ns[0]'(by omega), by simp⟩
      refine ⟨⟨_, rfl⟩, _, rfl, _, rfl, _, rfl, l, _, _, V.int n0, rfl, rfl, SqL.of hL, at_of (j := 0) rfl (by rw [List.getElem?_map, hn0]; rfl), _, _, rfl, rfl, (by show (0 : Int) < 25; decide), _, _, rfl, rfl, _, rfl, l, _, rfl, SqL.of hL, fun q hq => ?_⟩
      have s2 := same_new (o := HO.lst (cutV (ns.map V.int) (some 1) (some (1 + n0 % 25)))) hq
      refine ⟨q, rfl, ⟨_, SqL.of upd_same⟩, fun Dd hD => lc_it walk_list (fun i H2 => Same (upd H1 q (HO.lst (cutV (ns.map V.int) (some 1) (some (1 + n0 % 25))))) H2 ∧ ∃ ys : List Str, H2 Dd = some (.lst (ys.map V.str)) ∧ ys.length = i ∧ ∀ y ∈ ys, Sml y)
        ⟨same_new hD, [], upd_same, rfl, fun y hy => absurd hy (by simp)⟩ (fun i H2 _ h => SqL.of (h.1 _ _ upd_same)) ?_ ?_⟩
      · rintro i x H3 H2 hi ⟨sm, ys, hY, hyl, hys⟩ ⟨rfl, hx⟩
        obtain ⟨d, hd, rfl⟩ := List.mem_map.mp (cutV_mem (List.mem_of_getElem? hx))
        obtain ⟨hd0, hd1⟩ := hns d hd
        rw [signs_len] at hd1
        have hil : i < 25 := by
          have h1 := cutV_length (ns.map V.int) (some 1) (some (1 + n0 % 25))
          rw [List.length_map, hlen] at h1
          omega
        have hdl : d.toNat < (signs1 ++ signs2).cps.toList.length := by
          have e : (signs1 ++ signs2).cps.toList.length = (signs1 ++ signs2).length := Array.length_toList
          rw [e, signs_len]; omega
        refine ⟨rfl, _, rfl, _, rfl, signs1 ++ signs2, _, (signs1 ++ signs2).cps.toList[d.toNat]'hdl, rfl, rfl, by rw [signs_len]; exact size_line (by decide), at_nn hd0 hdl, _, hY, size_lt (by rw [List.length_map]; omega), same_at sm hD, ?_⟩
        refine ⟨ys ++ [⟨#[(signs1 ++ signs2).cps.toList[d.toNat]'hdl]⟩], by rw [upd_same, List.map_append]; rfl, by rw [List.length_append, hyl]; rfl, fun y hy => ?_⟩
        rcases List.mem_append.mp hy with z | z
        · exact hys y z
        · rw [List.mem_singleton.mp z]
          refine ⟨by show 1 ≤ 4; decide, fun ch hch => ?_⟩
          have e : ch = (signs1 ++ signs2).cps.toList[d.toNat]'hdl := by simpa using hch
          rw [e]
          exact of_decide_eq_true (List.all_eq_true.mp signs_ok _ (List.getElem_mem hdl))
      · rintro H2 ⟨sm, ys, hY, hyl, hys⟩
        have hil : ys.length ≤ 25 := by
          have h1 := cutV_length (ns.map V.int) (some 1) (some (1 + n0 % 25))
          rw [List.length_map, hlen] at h1
          omega
        obtain ⟨j1, j2, j3⟩ := sml_join (y := "") ⟨by decide +kernel, by rw [empty_str]; intro c hc; exact absurd hc (by simp)⟩ hys hil
        exact ⟨_, Dd, ys, rfl, rfl, .inl (SqL.of hY), j1, k _ H2 (s1.trans (s2.trans sm)) j2 j3⟩
    · refine ⟨_, rfl, ?_⟩
      refine ⟨_, 14, _, false, rfl, by decide, by decide, by decide, fun l ns H1 s1 hl hL hlen hns => ?_⟩
      refine ⟨(by show 12 ≤ sizeLine; decide), fun wl hwl => ?_⟩
      have s1w := same_new (o := HO.lst (words12.map V.str)) hwl
      have hL1 := s1w _ _ hL
      obtain ⟨n0, hn0⟩ : ∃ n0, ns[0]? = some n0 := ⟨ns[0]'(by omega), by simp⟩
      refine ⟨⟨_, rfl⟩, _, rfl, _, rfl, _, rfl, l, _, _, V.int n0, rfl, rfl, SqL.of hL1, at_of (j := 0) rfl (by rw [List.getElem?_map, hn0]; rfl), _, _, rfl, rfl, _, rfl, l, _, rfl, SqL.of hL1, fun q hq => ?_⟩
      have s2 := same_new (o := HO.lst (cutV (ns.map V.int) (some 1) (some (1 + n0)))) hq
      refine ⟨q, rfl, ⟨_, SqL.of upd_same⟩, fun Dd hD => lc_it walk_list (fun i H2 => Same (upd (upd H1 wl (.lst (words12.map V.str))) q (HO.lst (cutV (ns.map V.int) (some 1) (some (1 + n0))))) H2 ∧ ∃ ys : List Str, H2 Dd = some (.lst (ys.map V.str)) ∧ ys.length = i ∧ ∀ y ∈ ys, Sml y)
        ⟨same_new hD, [], upd_same, rfl, fun y hy => absurd hy (by simp)⟩ (fun i H2 _ h => SqL.of (h.1 _ _ upd_same)) ?_ ?_⟩
      · rintro i x H3 H2 hi ⟨sm, ys, hY, hyl, hys⟩ ⟨rfl, hx⟩
        obtain ⟨d, hd, rfl⟩ := List.mem_map.mp (cutV_mem (List.mem_of_getElem? hx))
        obtain ⟨hd0, hd1⟩ := hns d hd
        have hil : i < 25 := by
          have h1 := cutV_length (ns.map V.int) (some 1) (some (1 + n0))
          rw [List.length_map, hlen] at h1
          omega
        have hdl : d.toNat < words12.length := by show d.toNat < 12; omega
        have hW := sm _ _ (s2 _ _ (upd_same (H := H1) (a := wl) (o := HO.lst (words12.map V.str))))
        refine ⟨rfl, _, rfl, _, rfl, wl, _, _, V.str (words12[d.toNat]'hdl), rfl, rfl, SqL.of hW, at_of (j := d.toNat) (by omega) (by rw [List.getElem?_map]; simp [hdl]), _, hY, size_lt (by rw [List.length_map]; omega), same_at sm hD, ?_⟩
        refine ⟨ys ++ [words12[d.toNat]'hdl], by rw [upd_same, List.map_append]; rfl, by rw [List.length_append, hyl]; rfl, fun y hy => ?_⟩
        rcases List.mem_append.mp hy with z | z
        · exact hys y z
        · rw [List.mem_singleton.mp z]
          exact words12_sml (List.getElem_mem hdl)
      · rintro H2 ⟨sm, ys, hY, hyl, hys⟩
        have hil : ys.length ≤ 25 := by
          have h1 := cutV_length (ns.map V.int) (some 1) (some (1 + n0))
          rw [List.length_map, hlen] at h1
          omega
        obtain ⟨j1, j2, j3⟩ := sml_join (y := " ") ⟨by decide +kernel, by rw [blank_str]; intro c hc; exact (show c = 32 by simpa using hc) ▸ (by decide)⟩ hys hil
        exact ⟨_, Dd, ys, rfl, rfl, .inl (SqL.of hY), j1, k _ H2 (s1.trans (s1w.trans (s2.trans sm))) j2 j3⟩
end
end KP
namespace KP
open PySem L2
section
variable {P : Program} {w : World} {K : PySem.W.Frag} {mg : Str → Option Value} {base : Heap}
/-! _law_document -/
theorem leS_trans {a b c : Str} (h1 : leS a b = true) (h2 : leS b c = true) : leS a c = true := leS_iff.mpr (List.le_trans (leS_iff.mp h1) (leS_iff.mp h2))
theorem rising_pair : ∀ (l : List Str) (p : Str), PyProof.Rows.risingS p l = true → (p :: l).Pairwise fun a b => leS a b = true
  | [], p, _ => List.pairwise_singleton _ _
  | x :: r, p, h => by
    unfold PyProof.Rows.risingS at h
    rw [Bool.and_eq_true] at h
    have ih := rising_pair r x h.2
    have hpx : leS p x = true := by
      unfold leS
      rw [← PyProof.Rows.ltCps_eq]
      exact h.1
    refine List.pairwise_cons.mpr ⟨fun y hy => ?_, ih⟩
    rcases List.mem_cons.mp hy with e | hy
    · rw [e]; exact hpx
    · exact leS_trans hpx ((List.pairwise_cons.mp ih).1 y hy)
theorem sorted_pair {l : List Str} (h : PyProof.Rows.sortedS l = true) : l.Pairwise fun a b => leS a b = true := by
  cases l with
  | nil => exact List.Pairwise.nil
  | cons x r => exact rising_pair r x h
theorem ltS_of {a b : Str} (h : leS a b = true) (n : a ≠ b) : ltS a b := by
  by_cases q : a.cps.toList < b.cps.toList
  · exact q
  · exact absurd (str_ext (List.le_antisymm (leS_iff.mp h) (List.not_lt.mp q))) n
def names9 : List Str := ["a", "ab", "b", "body", "c", "title", "tit", "z", "zz"]
theorem names9_nd : names9.Nodup := by decide +kernel
theorem names9_ok : names9.all (fun t => decide (0 < t.cps.size) && decide (t.cps.size ≤ 12) && t.cps.toList.all (fun c => decide (97 ≤ c) && decide (c ≤ 122))) = true := by decide +kernel
theorem names9_nm {t : Str} (h : t ∈ names9) : IsNm t := by
  have q := List.all_eq_true.mp names9_ok t h
  rw [Bool.and_eq_true, Bool.and_eq_true] at q
  refine ⟨of_decide_eq_true q.1.1, of_decide_eq_true q.1.2, fun c hc => ?_⟩
  have z := List.all_eq_true.mp q.2 c hc
  rw [Bool.and_eq_true] at z
  exact ⟨of_decide_eq_true z.1, of_decide_eq_true z.2⟩
theorem names9_eq0 : ∀ i m : Fin 9, m < i → eqV (V.str (names9[m.val]'m.isLt)) (V.str (names9[i.val]'i.isLt)) = false := by decide +kernel
theorem names9_eq1 : ∀ i : Fin 9, eqV (V.str (names9[i.val]'i.isLt)) (V.str (names9[i.val]'i.isLt)) = true := by decide +kernel
theorem flat_ints : ∀ ns : List Int, (ns.map V.int).all flatV = true
  | [] => rfl
  | _ :: r => by
    rw [List.map_cons, List.all_cons, flat_ints r]; rfl
theorem cut_flat {xs : List V} {lo hi : Option Int} (h : xs.all flatV = true) : (cutV xs lo hi).all flatV = true := List.all_eq_true.mpr fun x hx => List.all_eq_true.mp h x (cutV_mem hx)
def spDocument : Sp := fun vs H Q _ => ∃ c m : Int, vs = [.int c, .int m] ∧ ∀ (a : Addr) (doc : Doc) (H' : Hp), Same H H' → H a = none → DocAt (fr H' H) a doc → DocOk doc → (∀ q ∈ doc, q.1 ∈ names9) → Q (.ref a) H'
abbrev nDocument : List Str := ["_law_cell", "_law_more", "_law_names", "_law_fields", "_law_name", "_law_k"]
theorem scDocument : FnScope nDocument ["_law_cell", "_law_more"] (defScope sDocument) := ⟨rfl, rfl, rfl, by decide +kernel, rfl, by decide +kernel, by decide +kernel⟩
theorem ok_document {f C fd0 ft0 : Addr} {fd fdd fdt : FuncData} (F : Fun K "_law_document" "_law_document" sDocument f fd) (T : Txt K mg C) (D : DefAt K mg "_law_draws" sDraws ["_law_cell", "_law_many", "_law_base", "_law_free"] fd0 fdd)
    (X : DefAt K mg "_law_text" sText ["_law_cell"] ft0 fdt) : FnOk P w K mg base CX0 3 f fd ["_law_cell", "_law_more"] spDocument := by
  have GD : FnOk P w K mg base CX0 1 fd0 fdd ["_law_cell", "_law_many", "_law_base", "_law_free"] spDraws := ok_draws D.fn T
  have GX : FnOk P w K mg base CX0 2 ft0 fdt ["_law_cell"] spText := ok_text X.fn T D
  refine F.ok scDocument (fun vs H Q E h => ?_) (fun cdv A outer s H vs Q E hr h => ?_)
  · obtain ⟨_, _, rfl, _⟩ := h
    rfl
  · obtain ⟨c, m, rfl, k⟩ := h
    have hr1 : Room 1 _ := hr.mono (by decide)
    refine ⟨_, pss_cons (ps_set (i := 2) scDocument.nd rfl (Or.inl rfl) (pe_call GD hr1 rfl D.at_ D.fn.kp D.bd .nil pass0 (pa_cons (pv 0) (pa_cons pe_int (pa_cons pe_int (pa_cons pe_bl pa_nil))))))
      (pss_cons (ps_set (i := 3) scDocument.nd rfl (Or.inl rfl) (pe_lst pa_nil))
      (pss_cons (ps_for PassesOwn.never rfl (pi_list (pe_lst (pa_cons pe_str (pa_cons pe_str (pa_cons pe_str (pa_cons pe_str (pa_cons pe_str (pa_cons pe_str (pa_cons pe_str (pa_cons pe_str (pa_cons pe_str pa_nil))))))))))) (pg_name (i := 4) scDocument.nd rfl (Or.inl rfl))
        (pss_one (ps_if (pt_cmpR op_in_seq (pe_bm PySem.F.plainAttrs_list PySem.F.slot_list_index PySem.F.type_list_index mt_index (pe_lst (pa_cons pe_str (pa_cons pe_str (pa_cons pe_str (pa_cons pe_str (pa_cons pe_str (pa_cons pe_str (pa_cons pe_str (pa_cons pe_str (pa_cons pe_str pa_nil)))))))))) (pa_cons (pv 4) pa_nil))
              (pe_slice sl_list (pv 2) (po_some pe_int) (po_some (pe_op op_add pe_int (pe_op op_mod (pe_ix ix_list (pv 2) pe_int (fun _ _ => rfl)) pe_int)))) (by rfl))
          (pss_one (ps_expr (pe_bm PySem.F.plainAttrs_list PySem.F.slot_list_append PySem.F.type_list_append mt_append (pv 3) (pa_cons (pv 4) pa_nil)))) pss_nil)))
      (pss_one (ps_ret (pe_lc (own := [("_law_k", 5), ("_law_name", 4)]) (g := gTup K 2 (gCons (gName 5) (gCons (gName 4) gNil))) (tt := tYes) rfl scDocument.nd
          (pi_enum rfl T.enumerate (pa_cons (pe_callB cr_sortedS (by rfl) T.sorted (by decide +kernel) (pa_cons (pv 3) pa_nil)) pa_nil)) (blkOk_by (N := nDocument) (sc := defScope sDocument) (by decide +kernel))
          (fun _ _ _ _ _ => pg_tup rfl (pgs_cons (pg_name (i := 5) scDocument.nd rfl (Or.inl rfl)) (pgs_cons (pg_name (i := 4) scDocument.nd rfl (Or.inl rfl)) pgs_nil))) (fun _ _ _ _ _ => pts_nil)
          (fun _ _ _ _ _ => pe_tup (pa_cons (pv 4) (pa_cons (pe_call GX hr rfl X.at_ X.fn.kp X.bd .nil pass0 (pa_cons (pe_op op_fdiv (pv 1) (pe_op op_add pe_int (pe_op op_mul pe_int (pv 5)))) pa_nil)) pa_nil)))))))), ?_⟩
    refine ⟨_, rfl, c, 4, 9, true, rfl, by decide, by decide, by decide, fun l ns H1 s1 hl hL hlen hns => ?_⟩
    obtain ⟨n0, hn0⟩ : ∃ n0, ns[0]? = some n0 := ⟨ns[0]'(by omega), by simp⟩
    refine ⟨Nat.zero_le _, fun fl hfl => ?_⟩
    have s2 := same_new (o := HO.lst []) hfl
    have hfl0 : H fl = none := s1.free hfl
    refine ⟨(by show 9 ≤ sizeLine; decide), fun l9 h9 => ?_⟩
    have s3 := same_new (o := HO.lst (names9.map V.str)) h9
    have h90 : H l9 = none := (s1.trans s2).free h9
    have nfn : l9 ≠ fl := fun z => by rw [z, upd_same] at h9; cases h9
    refine ⟨l9, rfl, ⟨names9.map V.str, SqL.of upd_same⟩, for_it walk_list
      (fun i σ H2 => ∃ (v4 v5 : Option V) (fs : List Str), σ = [some (.int c), some (.int m), some (.ref l), some (.ref fl), v4, v5] ∧ Same H1 H2 ∧ H2 l9 = some (.lst (names9.map V.str)) ∧ H2 fl = some (.lst (fs.map V.str)) ∧ fs.Sublist (names9.take i))
      ⟨none, none, [], rfl, s2.trans s3, upd_same, s3 _ _ upd_same, List.nil_sublist _⟩ (fun i σ H2 _ ⟨_, _, _, _, _, h, _⟩ => SqL.of h) ?_ ?_⟩
    · rintro i x σ H3 H2 hi ⟨v4, v5, fs, rfl, sm, hN, hF, hsub⟩ ⟨rfl, hx⟩
      have hi9 : i < 9 := hi
      have hin : i < names9.length := hi9
      have ex : x = V.str (names9[i]'hin) := by
        rw [List.getElem?_map, List.getElem?_eq_getElem hin] at hx
        exact (Option.some.inj hx).symm
      subst ex
      refine ⟨(by show 9 ≤ sizeLine; decide), fun q hq => ?_⟩
      have sq := same_new (o := HO.lst (names9.map V.str)) hq
      have hLq := sq _ _ (sm _ _ hL)
      have hFq := sq _ _ hF
      refine ⟨.inl ⟨rfl, _, SqL.of (xs := names9.map V.str) upd_same⟩, _, rfl, q, names9.map V.str, V.str (names9[i]'hin), i, V.str (names9[i]'hin), rfl, rfl, SqL.of upd_same, rfl, by decide +kernel, ?_, names9_eq1 ⟨i, hi9⟩, ?_, ?_⟩
      · rw [List.getElem?_map, List.getElem?_eq_getElem hin]; rfl
      · intro m' z' hm hz
        have hm9 : m' < names9.length := Nat.lt_trans hm hin
        rw [List.getElem?_map, List.getElem?_eq_getElem hm9] at hz
        rw [← Option.some.inj hz]
        exact names9_eq0 ⟨i, hi9⟩ ⟨m', hm9⟩ hm
      refine ⟨_, rfl, _, rfl, _, rfl, l, _, _, V.int n0, rfl, rfl, SqL.of hLq, at_of (j := 0) rfl (by rw [List.getElem?_map, hn0]; rfl), _, _, rfl, rfl, (by show (0 : Int) < 4; decide), _, _, rfl, rfl, _, rfl, l, _, rfl, SqL.of hLq, fun r hr' => ?_⟩
      have sr := same_new (o := HO.lst (cutV (ns.map V.int) (some 1) (some (1 + n0 % 4)))) hr'
      refine ⟨r, _, rfl, .inl (SqL.of upd_same), rfl, cut_flat (flat_ints ns), _, rfl, ?_⟩
      have etake : names9.take (i + 1) = names9.take i ++ [names9[i]'hin] := by rw [List.take_add_one, List.getElem?_eq_getElem hin]; rfl
      have hF2 := sr _ _ hFq
      have hfs : (fs.map V.str).length ≤ 1000000 := by
        have h1 := hsub.length_le
        rw [List.length_take] at h1
        rw [List.length_map]
        omega
      have hN2 := sr _ _ (sq _ _ hN)
      refine ite2 (fun _ => ?_) (fun _ => ?_)
      · refine ⟨_, rfl, .inl ⟨rfl, _, SqL.of hF2⟩, _, rfl, fl, _, _, rfl, rfl, hF2, size_lt hfs, ?_⟩
        refine ⟨some (.str (names9[i]'hin)), v5, fs ++ [names9[i]'hin], rfl, same_at ((sm.trans sq).trans sr) hfl, upd_oth hN2 nfn, by rw [upd_same, List.map_append]; rfl, ?_⟩
        rw [etake]
        exact List.Sublist.append hsub (List.Sublist.refl _)
      · refine ⟨some (.str (names9[i]'hin)), v5, fs, rfl, (sm.trans sq).trans sr, hN2, hF2, ?_⟩
        rw [etake]
        exact List.Sublist.trans hsub (List.sublist_append_left _ _)
    · rintro σ H2 ⟨v4, v5, fs, rfl, sm, hN, hF, hsub⟩
      have hsub9 : fs.Sublist names9 := by
        have e : names9.take (names9.map V.str).length = names9 := by rw [List.length_map, List.take_length]
        rw [e] at hsub
        exact hsub
      have hfl9 : fs.length ≤ 9 := hsub9.length_le
      refine ⟨_, rfl, fl, fs, rfl, SqL.of hF, by omega, fun ys p perm srt hp => ⟨p, _, rfl, SqL.of upd_same, fun Dd hD => ?_⟩⟩
      have s4 := same_new (o := HO.lst (ys.map V.str)) hp
      have s04 := (s1.trans sm).trans s4
      have ysl : ys.length ≤ 9 := by rw [perm.length_eq]; exact hfl9
      have hDd0 : H Dd = none := s04.free hD
      refine lc_it walk_enum (fun i H5 => Same (upd H2 p (.lst (ys.map V.str))) H5 ∧ ∃ (xs : List V) (doc : Doc), H5 Dd = some (.lst xs) ∧ Paired (FT (fr H5 H)) xs doc ∧ doc.map (·.1) = ys.take i ∧ ∀ q ∈ doc, q.2.cps.size ≤ 1000 ∧ ∀ c ∈ q.2.cps.toList, c < 128)
        ⟨same_new hD, [], [], upd_same, .nil, rfl, fun q hq => absurd hq (by simp)⟩ (fun i H5 _ h => SqL.of (h.1 _ _ upd_same)) ?_ ?_
      · rintro i x H5 H6 hi ⟨s5, xs, doc, hX, px, ek, ht⟩ ⟨tt, y1, y2, rfl, htt, rfl, ey1, ey2⟩
        cases ey1
        have hiy : i < ys.length := by rw [List.length_map] at hi; exact hi
        have e2 : y2 = V.str (ys[i]'hiy) := by
          have ey3 : (ys.map V.str)[i]? = some y2 := ey2
          rw [List.getElem?_map, List.getElem?_eq_getElem hiy] at ey3
          exact (Option.some.inj ey3).symm
        subst e2
        have q1 := same_new (o := HO.tup [V.int (i : Nat), V.str (ys[i]'hiy)]) htt
        refine ⟨tt, _, rfl, SqT.of upd_same, rfl, _, _, rfl, _, _, rfl, rfl, rfl, ?_⟩
        refine ⟨_, rfl, _, rfl, _, rfl, _, _, rfl, rfl, .inl ⟨by decide, by decide⟩, _, _, rfl, rfl, _, _, rfl, rfl, ⟨by omega, by omega⟩, ?_⟩
        refine ⟨_, rfl, fun t H7 s7 ht1 ht2 => ?_⟩
        refine ⟨(by show 2 ≤ sizeLine; decide), fun t2 ht2' => ?_⟩
        have q2 := same_new (o := HO.tup [V.str (ys[i]'hiy), V.str t]) ht2'
        have hXf := q2 _ _ (s7 _ _ (q1 _ _ hX))
        have ht20 : H t2 = none := ((((s04.trans s5).trans q1).trans s7)).free ht2'
        have hdl : doc.length ≤ 9 := by
          have e := congrArg List.length ek
          rw [List.length_map, List.length_take] at e
          omega
        refine ⟨xs, hXf, size_lt (by rw [pd_len px]; omega), same_at (((s5.trans q1).trans s7).trans q2) hD, xs ++ [.ref t2], doc ++ [(ys[i]'hiy, t)], upd_same, ?_, ?_, fun q hq => ?_⟩
        · have tsf : TS (fr H5 H) (fr (upd (upd H7 t2 (.tup [V.str (ys[i]'hiy), V.str t])) Dd (.lst (xs ++ [.ref t2]))) H) := fr_ts (TS.trans (sTS ((q1.trans s7).trans q2)) (ts_lst hXf))
          have h1 : FT (fr (upd (upd H7 t2 (.tup [V.str (ys[i]'hiy), V.str t])) Dd (.lst (xs ++ [.ref t2]))) H) (.ref t2) (ys[i]'hiy, t) := ⟨t2, rfl, fr_in (upd_oth upd_same (ne_of upd_same hXf (by intro z; cases z))) ht20⟩
          exact pd_snoc h1 (Paired.mapP px fun _ _ z => z.mono tsf)
        · rw [List.map_append, ek, List.take_add_one, List.getElem?_eq_getElem hiy]; rfl
        · rcases List.mem_append.mp hq with z | z
          · exact ht q z
          · rw [List.mem_singleton.mp z]; exact ⟨ht1, ht2⟩
      · rintro H5 ⟨s5, xs, doc, hX, px, ek, ht⟩
        have ek2 : doc.map (·.1) = ys := by rw [ek, List.length_map, List.take_length]
        have nd : ys.Nodup := perm.nodup_iff.mpr (hsub9.nodup names9_nd)
        refine k Dd doc H5 (s04.trans s5) hDd0 ⟨xs, fr_in hX hDd0, px⟩ ⟨?_, fun q hq => ?_, ht, ?_⟩ fun q hq => hsub9.subset (perm.mem_iff.mp (by rw [← ek2]; exact List.mem_map.mpr ⟨q, hq, rfl⟩))
        · have h1 : (doc.map (·.1)).Pairwise fun a b => ltS a b := by
            rw [ek2]
            exact List.Pairwise.imp₂ (fun a b h1 h2 => ltS_of h1 h2) (sorted_pair srt) nd
          exact List.pairwise_map.mp h1
        · have : q.1 ∈ ys := by rw [← ek2]; exact List.mem_map.mpr ⟨q, hq, rfl⟩
          exact names9_nm (hsub9.subset (perm.mem_iff.mp this))
        · have e := congrArg List.length ek2
          rw [List.length_map] at e
          omega
end
end KP
namespace KP
open PySem L2
section
variable {P : Program} {w : World} {K : PySem.W.Frag} {mg : Str → Option Value} {base : Heap}
/-! _law_words -/
def signs62 : Str := "abcdefghijklmnopqrstuvwxyzABCDEFGHIJKLMNOPQRSTUVWXYZ0123456789"
theorem signs62_list : signs62.cps.toList = List.range' 97 26 ++ List.range' 65 26 ++ List.range' 48 10 := by decide +kernel
theorem mem_signs62 {c : Nat} : c ∈ signs62.cps.toList ↔ ∃ d, low c = some d := by
  rw [signs62_list, List.mem_append, List.mem_append, List.mem_range'_1, List.mem_range'_1, List.mem_range'_1]
  unfold low
  constructor
  · intro h
    by_cases h1 : 65 ≤ c ∧ c ≤ 90
    · exact ⟨_, if_pos h1⟩
    · rw [if_neg h1]
      exact ⟨c, if_pos (by omega)⟩
  · rintro ⟨d, h⟩
    split at h
    · omega
    · split at h
      · omega
      · cases h
theorem lower0 : ∀ c : Fin 123, (match low c.val with | some d => decide (Txt.lower ⟨#[c.val]⟩ = ⟨#[d]⟩) | none => true) = true := by decide +kernel
theorem lower_low {c d : Nat} (h : low c = some d) : Txt.lower ⟨#[c]⟩ = ⟨#[d]⟩ := by
  have hc : c < 123 := by
    unfold low at h
    split at h
    · omega
    · split at h
      · omega
      · cases h
  have q := lower0 ⟨c, hc⟩
  dsimp only at q
  rw [h] at q
  exact of_decide_eq_true q
def spLWords : Sp := fun vs H Q _ => ∃ t : Str, vs = [.str t] ∧ t.cps.size ≤ 1000 ∧ ∀ (l : Addr) (H' : Hp), Same H H' → H l = none → H' l = some (.lst ((wordsL t).map V.str)) → Q (.ref l) H'
abbrev nLWords : List Str := ["_law_text_here", "_law_found", "_law_word", "_law_sign"]
theorem scLWords : FnScope nLWords ["_law_text_here"] (defScope sLWords) := ⟨rfl, rfl, rfl, by decide +kernel, rfl, by decide +kernel, by decide +kernel⟩
theorem ok_lwords {f C : Addr} {fd : FuncData} (F : Fun K "_law_words" "_law_words" sLWords f fd) (T : Txt K mg C) : FnOk P w K mg base CX0 1 f fd ["_law_text_here"] spLWords := by
  refine F.ok scLWords (fun vs H Q E h => ?_) (fun cdv A outer s H vs Q E hr h => ?_)
  · obtain ⟨_, rfl, _⟩ := h
    rfl
  · obtain ⟨t, rfl, hz, k⟩ := h
    refine ⟨_, pss_cons (ps_set (i := 1) scLWords.nd rfl (Or.inl rfl) (pe_lst pa_nil))
      (pss_cons (ps_set (i := 2) scLWords.nd rfl (Or.inl rfl) pe_str)
      (pss_cons (ps_for PassesOwn.never rfl (pi_str (pe_op op_add_str (pv 0) pe_str)) (pg_name (i := 3) scLWords.nd rfl (Or.inl rfl))
        (pss_one (ps_if (pt_cmpR op_in_sign (pv 3) pe_str (by rfl))
          (pss_one (ps_set (i := 2) scLWords.nd rfl (Or.inl rfl) (pe_op op_add_str (pv 2) (pe_lower (pv 3)))))
          (pss_one (ps_if (pt_cmpR op_ne (pv 2) pe_str (nomark _))
            (pss_cons (ps_expr (pe_bm PySem.F.plainAttrs_list PySem.F.slot_list_append PySem.F.type_list_append mt_append (pv 1) (pa_cons (pv 2) pa_nil)))
            (pss_one (ps_set (i := 2) scLWords.nd rfl (Or.inl rfl) pe_str))) pss_nil)))))
      (pss_one (ps_ret (pv 1))))), ?_⟩
    refine ⟨Nat.zero_le _, fun l hl => ?_⟩
    have hsz : (t ++ (" " : Str)).cps.size = t.cps.size + 1 := app_blank_size
    refine ⟨_, rfl, _, _, rfl, rfl, ?_, _, rfl, for_it walk_str
      (fun i σ H2 => ∃ (v3 : Option V), σ = [some (.str t), some (.ref l), some (.str (runW t i).2), v3] ∧ Same H H2 ∧ H2 l = some (.lst ((runW t i).1.map V.str)))
      ⟨none, by rw [runW_zero, ← empty_str]; rfl, same_new hl, upd_same⟩ (fun _ _ _ _ _ => trivial) ?_ ?_⟩
    · show t.cps.size + ((" " : Str)).cps.size ≤ sizeLine
      rw [blank_str]
      exact size_line (by show t.cps.size + 1 ≤ _; omega)
    · rintro i x σ H3 H2 hi ⟨v3, rfl, sm, hL⟩ ⟨rfl, c, hc, rfl⟩
      have hc' := app_blank_get hc
      have hlen := runW_len t i
      have hi' : i ≤ 1000 := by omega
      refine ⟨_, rfl, c, signs62, rfl, rfl, _, rfl, ?_⟩
      refine ite2 (fun h1 => ?_) (fun h1 => ?_)
      · obtain ⟨d, e⟩ := mem_signs62.mp (of_decide_eq_true h1)
        refine ⟨_, rfl, _, rfl, ⟨_, rfl⟩, _, rfl, rfl, (by show 1 ≤ 5592405; decide), _, _, rfl, rfl, ?_, ?_⟩
        · rw [lower_low e]
          exact size_line (by show (runW t i).2.cps.size + 1 ≤ _; omega)
        · rw [lower_low e]
          refine ⟨some (.str ⟨#[c]⟩), ?_, sm, ?_⟩
          · rw [runW_succ hc']
            unfold stepW
            rw [e]
            rfl
          · rw [runW_succ hc']
            unfold stepW
            rw [e]
            exact hL
      · have e : low c = none := by
          cases q : low c with
          | none => rfl
          | some d => exact absurd (decide_eq_true (mem_signs62.mpr ⟨d, q⟩)) h1
        refine ⟨_, rfl, rfl, _, rfl, ?_⟩
        by_cases hw : (runW t i).2 = eS
        · have e3 : (!decide (V.str (runW t i).2 = V.str ("" : Str))) = false := by rw [hw, empty_str]; simp
          rw [e3]
          refine iteF ?_
          refine ⟨some (.str ⟨#[c]⟩), ?_, sm, ?_⟩
          · rw [runW_succ hc']
            unfold stepW
            rw [e, if_pos hw]
            rfl
          · rw [runW_succ hc']
            unfold stepW
            rw [e, if_pos hw]
            exact hL
        · have e3 : (!decide (V.str (runW t i).2 = V.str ("" : Str))) = true := by
            rw [empty_str]
            have : ¬ V.str (runW t i).2 = V.str eS := fun z => hw (by injection z)
            rw [decide_eq_false this]; rfl
          rw [e3]
          refine iteT ?_
          refine ⟨_, rfl, .inl ⟨rfl, _, SqL.of hL⟩, _, rfl, l, _, _, rfl, rfl, hL, size_lt (by rw [List.length_map]; omega), ?_⟩
          refine ⟨some (.str ⟨#[c]⟩), ?_, same_at sm hl, ?_⟩
          · rw [runW_succ hc', empty_str]
            unfold stepW
            rw [e, if_neg hw]
            rfl
          · rw [runW_succ hc', upd_same]
            unfold stepW
            rw [e, if_neg hw, List.map_append]
            rfl
    · rintro σ H2 ⟨v3, rfl, sm, hL⟩
      rw [hsz] at hL
      exact ⟨_, rfl, k l H2 sm hl hL⟩
end
end KP
/-! One event of the law's table, in three steps. -/
namespace KP
open PySem L2
theorem alt_self {α : Type} {k : Str} {a : α} {d : α} : ∀ {l : List (Str × α)}, look l k = some a → alt l k (fun o => o.getD d) = l
  | [], h => by cases h
  | p :: r, h => by
    by_cases e : p.1 = k
    · rw [look_pos e] at h
      have e2 : p.2 = a := Option.some.inj h
      rw [alt_pos e]
      rfl
    · rw [look_neg e] at h
      rw [alt_neg e, alt_self h]
def PK (g : Str → Pth) (own : Own) {α : Type} (kv : Key × V) (p : Str × α) : Prop := kv.1 = Sum.inr p.1 ∧ ∃ wd, kv.2 = V.ref wd ∧ own wd = some (g p.1)
theorem pk_val {g : Str → Pth} {own : Own} {α : Type} {kf : List (Key × V)} {tab : List (Str × α)} (h : Paired (PK g own) kf tab) (f : Str) :
    (look tab f = none → valV kf (Sum.inr f : Key) = none) ∧ (∀ T, look tab f = some T → ∃ wd, valV kf (Sum.inr f : Key) = some (.ref wd) ∧ own wd = some (g f)) := by
  induction h with
  | nil => exact ⟨fun _ => rfl, fun _ z => (by cases z)⟩
  | @cons kv p kvs A r _ ih =>
    obtain ⟨h1, wd, h2, h3⟩ := r
    by_cases e : p.1 = f
    · rw [valV_pos (h1.trans (congrArg Sum.inr e)), look_pos e]
      exact ⟨fun z => (by cases z), fun _ _ => ⟨wd, (by rw [h2]), (by rw [← e]; exact h3)⟩⟩
    · rw [valV_neg (fun z => e (Sum.inr.inj (h1.symm.trans z))), look_neg e]
      exact ih
theorem pk_keys {g : Str → Pth} {own : Own} {α : Type} {kf : List (Key × V)} {tab : List (Str × α)} (h : Paired (PK g own) kf tab) : kf.map (·.1) = (tab.map (·.1)).map Sum.inr := by
  induction h with
  | nil => rfl
  | cons r _ ih => rw [List.map_cons, List.map_cons, List.map_cons, ih, r.1]
theorem pk_nd {g : Str → Pth} {own : Own} {α : Type} {kf : List (Key × V)} {tab : List (Str × α)} (h : Paired (PK g own) kf tab) (nd : (tab.map (·.1)).Nodup) : (kf.map (·.1)).Nodup := by
  rw [pk_keys h]
  exact List.pairwise_map.mpr (List.Pairwise.imp (fun n e => n (Sum.inr.inj e)) nd)
section
variable {own : Own} {G : Hp} {fd : Addr} {tab : Tab}
theorem OT.free (h : OT own G fd tab) {e : Addr} (he : G e = none) : own e = none := by
  cases q : own e with
  | none => rfl
  | some p => exact absurd he (h.dom _ _ q)
theorem OT.stepF (h : OT own G fd tab) {f : Str} {e : Addr} {kf : List (Key × V)} (nd : (tab.map (·.1)).Nodup) (he : G e = none) (hk : G fd = some (.dK kf)) :
    ∃ own' wd kw, (valV kf (Sum.inr f : Key)).getD (.ref e) = .ref wd ∧ OT own' (upd (upd G e (.dK [])) fd (.dK (putK kf (Sum.inr f : Key) (.ref wd)))) fd (alt tab f fun o => o.getD []) ∧
      own' wd = some (.fld f) ∧ (upd (upd G e (.dK [])) fd (.dK (putK kf (Sum.inr f : Key) (.ref wd)))) wd = some (.dK kw) ∧ Paired (WK own' f) kw ((look tab f).getD []) ∧ look (alt tab f fun o => o.getD []) f = some ((look tab f).getD []) := by
  obtain ⟨r1, kf', r2, r3⟩ := h.root
  rw [hk] at r2
  cases r2
  have s1 : Same G (upd G e (.dK [])) := same_new he
  have hv := pk_val (g := Pth.fld) (own := own) r3 f
  cases q : look tab f with
  | none =>
    rw [hv.1 q, alt_new q]
    have hA := (h.mono s1).addField (e := e) q (s1 _ _ hk) upd_same (h.free he)
    have nfd : e ≠ fd := fun z => by rw [z, hk] at he; cases he
    refine ⟨_, e, [], rfl, by rw [putK_new _ (hv.1 q)]; exact hA, own1_at, ?_, .nil, ?_⟩
    · rw [upd_ne nfd, upd_same]
    · show look (tab ++ [(f, [])]) f = some []
      rw [look_snoc q, if_pos rfl]
  | some T =>
    obtain ⟨wd, h1, h2⟩ := hv.2 T q
    obtain ⟨wd', kw, w1, w2, w3⟩ := h.flds f T q
    cases h.inj _ _ _ w1 h2
    rw [h1, alt_self q]
    refine ⟨own, wd, kw, rfl, ?_⟩
    rw [putK_same (pk_nd (g := Pth.fld) r3 nd) h1, upd_self (s1 _ _ hk)]
    exact ⟨h.mono s1, h2, s1 _ _ w2, w3, q⟩
theorem OT.stepW (h : OT own G fd tab) {f w : Str} {e wd : Addr} {T : Words} {kw : List (Key × V)} (nd : (tab.map (·.1)).Nodup) (nT : (T.map (·.1)).Nodup) (hf : look tab f = some T) (he : G e = none) (hwd : own wd = some (.fld f)) (hk : G wd = some (.dK kw)) (pw : Paired (WK own f) kw T) :
    ∃ own' rd kr, (valV kw (Sum.inr w : Key)).getD (.ref e) = .ref rd ∧ OT own' (upd (upd G e (.dK [])) wd (.dK (putK kw (Sum.inr w : Key) (.ref rd)))) fd (alt tab f fun _ => alt T w fun o => o.getD []) ∧
      own' rd = some (.wrd f w) ∧ (upd (upd G e (.dK [])) wd (.dK (putK kw (Sum.inr w : Key) (.ref rd)))) rd = some (.dK kr) ∧ KI (IL (upd (upd G e (.dK [])) wd (.dK (putK kw (Sum.inr w : Key) (.ref rd))))) kr ((look T w).getD []) ∧ look (alt T w fun o => o.getD []) w = some ((look T w).getD []) := by
  have s1 : Same G (upd G e (.dK [])) := same_new he
  have hv := pk_val (g := Pth.wrd f) (own := own) pw w
  cases q : look T w with
  | none =>
    rw [hv.1 q, alt_new q]
    have hA := (h.mono s1).addWord (e := e) nd hf q hwd (s1 _ _ hk) upd_same (h.free he)
    have nwd : e ≠ wd := fun z => by rw [z, hk] at he; cases he
    refine ⟨_, e, [], rfl, by rw [putK_new _ (hv.1 q)]; exact hA, own1_at, ?_, .nil, ?_⟩
    · rw [upd_ne nwd, upd_same]
    · show look (T ++ [(w, [])]) w = some []
      rw [look_snoc q, if_pos rfl]
  | some rows =>
    obtain ⟨rd, h1, h2⟩ := hv.2 rows q
    obtain ⟨rd', kr, w1, w2, w3⟩ := h.wrds f T w rows hf q
    cases h.inj _ _ _ w1 h2
    have e1 : (alt tab f fun _ => T) = tab := by
      have : (alt tab f fun _ => T) = alt tab f fun o => o.getD [] := alt_congr (by rw [hf]; rfl)
      rw [this, alt_self hf]
    rw [h1, alt_self q, e1]
    refine ⟨own, rd, kr, rfl, ?_⟩
    rw [putK_same (pk_nd (g := Pth.wrd f) pw nT) h1, upd_self (s1 _ _ hk)]
    exact ⟨h.mono s1, h2, s1 _ _ w2, w3.mono fun _ _ z => z.mono (sLS s1), q⟩
theorem OT.stepR {own : Own} {G : Hp} {fd : Addr} {tab : Tab} {f w : Str} {m a : Int} {rd : Addr} {kr : List (Key × V)} {v : V} (nd : Nd3 tab)
    (h : OT own G fd (alt (alt tab f fun o => o.getD []) f fun _ => alt ((look tab f).getD []) w fun o => o.getD [])) (hrd : own rd = some (.wrd f w)) (hk : G rd = some (.dK kr))
    (hr : KI (IL (upd G rd (.dK (putK kr (Sum.inl m : Key) v)))) kr (rowsAt tab f w)) (hv : IL (upd G rd (.dK (putK kr (Sum.inl m : Key) v))) v ((look (rowsAt tab f w) m).getD [] ++ [a])) :
    OT own (upd G rd (.dK (putK kr (Sum.inl m : Key) v))) fd (evL m f tab (a, w)) := by
  have e1 : look (alt (alt tab f fun o => o.getD []) f fun _ => alt ((look tab f).getD []) w fun o => o.getD []) f = some (alt ((look tab f).getD []) w fun o => o.getD []) := by
    rw [look_alt, if_pos rfl]
  have e2 : look (alt ((look tab f).getD []) w fun o => o.getD []) w = some (rowsAt tab f w) := by
    rw [look_alt, if_pos rfl]; rfl
  have hS := h.setRow (alt_nodup (alt_nodup nd.1.1)) (alt_nodup (nd.1.2 f)) e1 e2 hrd hk (KI.put hr (nd.2 f w) (g := fun q => q.getD [] ++ [a]) hv)
  have e3 : (alt (alt (alt tab f fun o => o.getD []) f fun _ => alt ((look tab f).getD []) w fun o => o.getD []) f fun _ => alt (alt ((look tab f).getD []) w fun o => o.getD []) w fun _ => alt (rowsAt tab f w) m fun q => q.getD [] ++ [a]) = evL m f tab (a, w) := by
    rw [alt_alt, alt_alt, alt_alt]
    unfold evL
    refine alt_congr ?_
    unfold addL
    refine alt_congr ?_
    rfl
  rw [← e3]
  exact hS
theorem OT.init {G : Hp} {d : Addr} (h : G d = some (.dK [])) : OT (fun b => if b = d then some .root else none) G d [] where
  inj := fun a b p ha hb => by
    split at ha
    · split at hb
      · simp_all
      · cases hb
    · cases ha
  dom := fun a p ha => by
    split at ha
    · rename_i e; rw [e, h]; intro z; cases z
    · cases ha
  root := ⟨if_pos rfl, [], h, .nil⟩
  flds := fun f T e => by cases e
  wrds := fun f T w rows e _ => by cases e
  ofld := fun a f ha => by
    split at ha
    · injection ha with ha; cases ha
    · cases ha
  owrd := fun a f w ha => by
    split at ha
    · injection ha with ha; cases ha
    · cases ha
end
end KP
namespace KP
open PySem L2
section
variable {P : Program} {w : World} {K : PySem.W.Frag} {mg : Str → Option Value} {base : Heap}
/-! _law_table -/
abbrev nLTable : List Str := ["_law_makes_here", "_law_found", "_law_make", "_law_document_here", "_law_field", "_law_text_here", "_law_at", "_law_word", "_law_words_here", "_law_rows"]
theorem scLTable : FnScope nLTable ["_law_makes_here"] (defScope sLTable) := ⟨rfl, rfl, rfl, by decide +kernel, rfl, by decide +kernel, by decide +kernel⟩
def spLTable : Sp := fun vs H Q _ => ∃ (a : Addr) (ms : Makes), vs = [.ref a] ∧ MakesAt H a ms ∧ MakesOk ms ∧ ∀ (d : Addr) (H' : Hp), Same H H' → H d = none → LTab H' d (ms.foldl tabL []) → SZ3 (ms.foldl tabL []) 900000 → Q (.ref d) H'
theorem ok_ltable {f C fw : Addr} {fd fdw : FuncData} (F : Fun K "_law_table" "_law_table" sLTable f fd) (T : Txt K mg C) (W : DefAt K mg "_law_words" sLWords ["_law_text_here"] fw fdw) : FnOk P w K mg base CX0 2 f fd ["_law_makes_here"] spLTable := by
  have GW : FnOk P w K mg base CX0 1 fw fdw ["_law_text_here"] spLWords := ok_lwords W.fn T
  refine F.ok scLTable (fun vs H Q E h => ?_) (fun cdv A outer s H vs Q E hr h => ?_)
  · obtain ⟨_, _, rfl, _⟩ := h
    rfl
  · obtain ⟨a, ms, rfl, ⟨xs, hA, pd⟩, mk, k⟩ := h
    have hu := hu_of hr
    refine ⟨_, pss_cons (ps_set (i := 1) scLTable.nd rfl (Or.inl rfl) pe_dnewK)
      (pss_cons (ps_for PassesOwn.never rfl (pi_list (pv 0)) (pg_tup rfl (pgs_cons (pg_name (i := 2) scLTable.nd rfl (Or.inl rfl)) (pgs_cons (pg_name (i := 3) scLTable.nd rfl (Or.inl rfl)) pgs_nil)))
        (pss_one (ps_for PassesOwn.never rfl (pi_list (pv 3)) (pg_tup rfl (pgs_cons (pg_name (i := 4) scLTable.nd rfl (Or.inl rfl)) (pgs_cons (pg_name (i := 5) scLTable.nd rfl (Or.inl rfl)) pgs_nil)))
          (pss_one (ps_for PassesOwn.never rfl (pi_enum rfl T.enumerate (pa_cons (pe_call GW hr rfl W.at_ W.fn.kp W.bd .nil pass0 (pa_cons (pv 5) pa_nil)) pa_nil)) (pg_tup rfl (pgs_cons (pg_name (i := 6) scLTable.nd rfl (Or.inl rfl)) (pgs_cons (pg_name (i := 7) scLTable.nd rfl (Or.inl rfl)) pgs_nil)))
            (pss_cons (ps_set (i := 8) scLTable.nd rfl (Or.inl rfl) (pe_dget2 hu (pv 1) (pv 4) pe_dnewK ⟨rfl, rfl, rfl, rfl⟩))
            (pss_cons (ps_dput hu (pv 1) (pv 4) (pv 8) rfl)
            (pss_cons (ps_set (i := 9) scLTable.nd rfl (Or.inl rfl) (pe_dget2 hu (pv 8) (pv 7) pe_dnewK ⟨rfl, rfl, rfl, rfl⟩))
            (pss_cons (ps_dput hu (pv 8) (pv 7) (pv 9) rfl)
            (pss_one (ps_dput hu (pv 9) (pv 2) (pe_op op_cat (pe_dget2 hu (pv 9) (pv 2) (pe_lst pa_nil) ⟨rfl, rfl, rfl, rfl⟩) (pe_lst (pa_cons (pv 6) pa_nil))) rfl)))))))))))
      (pss_one (ps_ret (pv 1)))), ?_⟩
    intro d hd
    refine ⟨_, rfl, a, rfl, ⟨xs, SqL.of (upd_old hA hd)⟩, for_it walk_list
      (fun i σ H2 => ∃ (v2 v3 v4 v5 v6 v7 v8 v9 : Option V) (own : Own), σ = [some (.ref a), some (.ref d), v2, v3, v4, v5, v6, v7, v8, v9] ∧ Same H H2 ∧ OT own (fr H2 H) d ((ms.take i).foldl tabL []) ∧ Nd3 ((ms.take i).foldl tabL []) ∧ SZ3 ((ms.take i).foldl tabL []) (i * 20040))
      ⟨none, none, none, none, none, none, none, none, (fun b => if b = d then some .root else none), rfl, same_new hd, ?_, Nd3.nil, SZ3.nil⟩
      (fun i σ H2 _ ⟨_, _, _, _, _, _, _, _, _, _, sm, _⟩ => SqL.of (sm _ _ hA)) ?_ ?_⟩
    · exact OT.init (by rw [fr_of hd, upd_same])
    · rintro i x σ H2 H3 hi ⟨v2, v3, v4, v5, v6, v7, v8, v9, own, rfl, sm, ot, nd, sz⟩ ⟨rfl, hx⟩
      obtain ⟨⟨m, doc⟩, hmd, p, da, rfl, hp, ys, hda, pdd⟩ := pd_get pd hx
      dsimp only at hp pdd
      have dk : DocOk doc := mk.docs _ (List.mem_of_getElem? hmd)
      have hi40 : i < 40 := by have := (List.getElem?_eq_some_iff.mp hmd).1; have := mk.len; omega
      refine ⟨p, _, rfl, SqT.of (sm _ _ hp), rfl, _, _, rfl, _, _, rfl, rfl, ?_⟩
      refine ⟨_, rfl, da, rfl, ⟨ys, SqL.of (sm _ _ hda)⟩, for_it walk_list
        (fun j σ H2 => ∃ (v4 v5 v6 v7 v8 v9 : Option V) (own : Own), σ = [some (.ref a), some (.ref d), some (.int m), some (.ref da), v4, v5, v6, v7, v8, v9] ∧ Same H H2 ∧ OT own (fr H2 H) d ((doc.take j).foldl (docL m) ((ms.take i).foldl tabL [])) ∧ Nd3 ((doc.take j).foldl (docL m) ((ms.take i).foldl tabL [])) ∧ SZ3 ((doc.take j).foldl (docL m) ((ms.take i).foldl tabL [])) (i * 20040 + j * 1002))
        ⟨v4, v5, v6, v7, v8, v9, own, rfl, sm, ot, nd, sz⟩
        (fun i σ H2 _ ⟨_, _, _, _, _, _, _, _, sm, _⟩ => SqL.of (sm _ _ hda)) ?_ ?_⟩
      · clear sm ot nd sz
        rintro j x σ H2 H3 hj ⟨v4, v5, v6, v7, v8, v9, own, rfl, sm, ot, nd, sz⟩ ⟨rfl, hx⟩
        obtain ⟨⟨f, t⟩, hft, p2, rfl, hp2⟩ := pd_get pdd hx
        dsimp only at hp2
        have hftm := List.mem_of_getElem? hft
        have hj20 : j < 20 := by have := (List.getElem?_eq_some_iff.mp hft).1; have := dk.len; omega
        refine ⟨p2, _, rfl, SqT.of (sm _ _ hp2), rfl, _, _, rfl, _, _, rfl, rfl, ?_⟩
        refine ⟨_, rfl, t, rfl, (dk.tx _ hftm).1, fun l H4 s4 hl hL => ?_⟩
        have hl0 : H l = none := sm.free hl
        have hwl : (wordsL t).length ≤ 1001 := by have := wordsL_len t; have h9 : t.cps.size ≤ 1000 := (dk.tx _ hftm).1; omega
        refine ⟨l, _, rfl, SqL.of hL, for_it walk_enum
          (fun n σ H5 => ∃ (v6 v7 v8 v9 : Option V) (own : Own), σ = [some (.ref a), some (.ref d), some (.int m), some (.ref da), some (.str f), some (.str t), v6, v7, v8, v9] ∧ Same H H5 ∧ H5 l = some (.lst ((wordsL t).map V.str)) ∧
            OT own (fr H5 H) d (((enumI (wordsL t)).take n).foldl (evL m f) ((doc.take j).foldl (docL m) ((ms.take i).foldl tabL []))) ∧ Nd3 (((enumI (wordsL t)).take n).foldl (evL m f) ((doc.take j).foldl (docL m) ((ms.take i).foldl tabL []))) ∧
            SZ3 (((enumI (wordsL t)).take n).foldl (evL m f) ((doc.take j).foldl (docL m) ((ms.take i).foldl tabL []))) (i * 20040 + j * 1002 + n))
          ⟨v6, v7, v8, v9, own, rfl, sm.trans s4, hL, ot.mono (fr_same s4), nd, sz⟩
          (fun n σ H5 _ ⟨_, _, _, _, _, _, _, h, _⟩ => SqL.of h) ?_ ?_⟩
        · clear sm ot nd sz s4 hL hl
          rintro n x σ H5 H6 hn ⟨v6, v7, v8, v9, own, rfl, sm, hL, ot, nd, sz⟩ ⟨tt, y1, y2, rfl, htt, rfl, ey1, ey2⟩
          cases ey1
          have hnw : n < (wordsL t).length := by rw [List.length_map] at hn; exact hn
          have e2 : y2 = V.str ((wordsL t)[n]'hnw) := by
            have ey3 : ((wordsL t).map V.str)[n]? = some y2 := ey2
            rw [List.getElem?_map, List.getElem?_eq_getElem hnw] at ey3
            exact (Option.some.inj ey3).symm
          subst e2
          obtain ⟨w, hw⟩ : ∃ w, w = (wordsL t)[n]'hnw := ⟨_, rfl⟩
          rw [← hw]
          obtain ⟨tab, htab⟩ : ∃ tab, tab = ((enumI (wordsL t)).take n).foldl (evL m f) ((doc.take j).foldl (docL m) ((ms.take i).foldl tabL [])) := ⟨_, rfl⟩
          have etab : ((enumI (wordsL t)).take (n + 1)).foldl (evL m f) ((doc.take j).foldl (docL m) ((ms.take i).foldl tabL [])) = evL m f tab ((n : Int), w) := by
            rw [htab, hw]
            exact foldl_take _ _ _ (enumI_get (List.getElem?_eq_getElem hnw))
          rw [etab]
          rw [← htab] at ot nd sz
          obtain ⟨B, hB⟩ : ∃ B, B = i * 20040 + j * 1002 + n := ⟨_, rfl⟩
          have hBs : B ≤ 900000 := by omega
          have eB : i * 20040 + j * 1002 + (n + 1) = B + 1 := by omega
          rw [eB]
          rw [← hB] at sz
          have q1 := same_new (o := HO.tup [V.int (n : Nat), V.str w]) htt
          have ot1 := ot.mono (fr_same (H0 := H) q1)
          obtain ⟨kf, hkf, pkf⟩ := ot1.root.2
          have hkf6 := (fr_at hkf).1
          refine ⟨tt, _, rfl, SqT.of upd_same, rfl, _, _, rfl, _, _, rfl, rfl, ?_⟩
          -- the field
          refine ⟨_, rfl, d, rfl, .inl ⟨kf, .inl hkf6⟩, _, rfl, fun e1 he1 => ?_⟩
          have sm1 := sm.trans q1
          have he10 : H e1 = none := sm1.free he1
          have q2 := same_new (o := HO.dK []) he1
          obtain ⟨own2, wd, kw, ew, ot2, own2w, hkw, pkw, lk2⟩ := ot1.stepF (f := f) (e := e1) nd.1.1 (fr_free he1) hkf
          refine ⟨_, DGet.k (k := Sum.inr f) (q2 _ _ hkf6), ?_⟩
          rw [ew]
          refine ⟨_, rfl, _, rfl, _, rfl, d, _, rfl, DPut.k (k := Sum.inr f) (q2 _ _ hkf6) (size_lt (by rw [pd_len pkf]; have := sz.1.1; omega)), ?_⟩
          -- the heap with the field
          have sm2 := sm1.trans q2
          obtain ⟨H7, hH7⟩ : ∃ H7, H7 = upd (upd (upd H5 tt (.tup [V.int (n : Nat), V.str w])) e1 (.dK [])) d (.dK (putK kf (Sum.inr f : Key) (.ref wd))) := ⟨_, rfl⟩
          have sm3 : Same H H7 := by rw [hH7]; exact same_at sm2 hd
          have hL7 : H7 l = some (.lst ((wordsL t).map V.str)) := by
            rw [hH7]
            exact ls_dK (q2 _ _ hkf6) _ _ (q2 _ _ (q1 _ _ hL))
          have eG7 : fr H7 H = upd (upd (fr (upd H5 tt (.tup [V.int (n : Nat), V.str w])) H) e1 (.dK [])) d (.dK (putK kf (Sum.inr f : Key) (.ref wd))) := by
            rw [hH7, fr_upd hd, fr_upd he10]
          rw [← eG7] at ot2 hkw
          rw [← hH7]
          clear hH7 eG7 q2 q1
          have hkw7 := (fr_at hkw).1
          have hwd0 := (fr_at hkw).2
          have nT := nd.1.2 f
          have szT := (sz.1.2 f).1
          -- the word
          refine ⟨_, rfl, wd, rfl, .inl ⟨kw, .inl hkw7⟩, _, rfl, fun e2 he2 => ?_⟩
          have he20 : H e2 = none := sm3.free he2
          have q2 := same_new (o := HO.dK []) he2
          obtain ⟨own3, rd, kr, er, ot3, own3r, hkr, ki3, lk3⟩ := ot2.stepW (w := w) (e := e2) (alt_nodup nd.1.1) nT lk2 (fr_free he2) own2w hkw pkw
          refine ⟨_, DGet.k (k := Sum.inr w) (q2 _ _ hkw7), ?_⟩
          rw [er]
          refine ⟨_, rfl, _, rfl, _, rfl, wd, _, rfl, DPut.k (k := Sum.inr w) (q2 _ _ hkw7) (size_lt (by rw [pd_len pkw]; omega)), ?_⟩
          have sm4 := sm3.trans q2
          obtain ⟨H8, hH8⟩ : ∃ H8, H8 = upd (upd H7 e2 (.dK [])) wd (.dK (putK kw (Sum.inr w : Key) (.ref rd))) := ⟨_, rfl⟩
          have sm5 : Same H H8 := by rw [hH8]; exact same_at sm4 hwd0
          have hL8 : H8 l = some (.lst ((wordsL t).map V.str)) := by
            rw [hH8]
            exact ls_dK (q2 _ _ hkw7) _ _ (q2 _ _ hL7)
          have eG8 : fr H8 H = upd (upd (fr H7 H) e2 (.dK [])) wd (.dK (putK kw (Sum.inr w : Key) (.ref rd))) := by
            rw [hH8, fr_upd hwd0, fr_upd he20]
          rw [← eG8] at ot3 hkr ki3
          rw [← hH8]
          clear hH8 eG8 q2
          have hkr8 := (fr_at hkr).1
          have hrd0 := (fr_at hkr).2
          have szR : (rowsAt tab f w).length ≤ B := (sz.1.2 f).2 w
          have szM := sz.2 f w m
          have hkrl : kr.length ≤ B := by rw [pd_len ki3]; exact szR
          -- the rows
          refine ⟨_, rfl, rd, rfl, .inl ⟨kr, .inl hkr8⟩, _, rfl, Nat.zero_le _, fun e3 he3 => ?_⟩
          have q3 : Same H8 (upd H8 e3 (.lst [])) := same_new he3
          have he30 : H e3 = none := sm5.free he3
          refine ⟨_, DGet.k (k := Sum.inl m) (q3 _ _ hkr8), _, rfl, (by show 1 ≤ sizeLine; decide), fun b hb => ?_⟩
          have q4 := same_new (o := HO.lst [V.int (n : Nat)]) hb
          obtain ⟨l1, el1, hl1⟩ : IL (fr (upd H8 e3 (.lst [])) H) ((valV kr (Sum.inl m : Key)).getD (.ref e3)) ((look (rowsAt tab f w) m).getD []) :=
            RO.getD ((ki3.mono fun _ _ z => z.mono (sLS (fr_same q3))).val m) ⟨e3, rfl, fr_in upd_same he30⟩
          have hl1' := (fr_at hl1).1
          refine ⟨l1, b, _, _, el1, rfl, q4 _ _ hl1', upd_same, size_line (by rw [List.length_map]; show _ + 1 ≤ _; omega), fun g hg => ?_⟩
          have q5 := same_new (o := HO.lst (((look (rowsAt tab f w) m).getD []).map V.int ++ [.int (n : Nat)])) hg
          have qAll := (q3.trans q4).trans q5
          have sm6 := sm5.trans qAll
          have hg0 : H g = none := (sm5.trans (q3.trans q4)).free hg
          refine ⟨_, rfl, _, rfl, rd, _, rfl, DPut.k (k := Sum.inl m) (qAll _ _ hkr8) (size_lt (by omega)), ?_⟩
          have ot4 := ot3.mono (fr_same (H0 := H) qAll)
          have hkr9 := fr_same (H0 := H) qAll _ _ hkr
          have hG9 : fr (upd (upd (upd (upd H8 e3 (.lst [])) b (.lst [V.int (n : Nat)])) g (.lst (((look (rowsAt tab f w) m).getD []).map V.int ++ [.int (n : Nat)]))) rd (.dK (putK kr (Sum.inl m : Key) (.ref g)))) H = upd (fr (upd (upd (upd H8 e3 (.lst [])) b (.lst [V.int (n : Nat)])) g (.lst (((look (rowsAt tab f w) m).getD []).map V.int ++ [.int (n : Nat)]))) H) rd (.dK (putK kr (Sum.inl m : Key) (.ref g))) := fr_upd hrd0
          refine ⟨some (.int (n : Nat)), some (.str w), some (.ref wd), some (.ref rd), own3, rfl, same_at sm6 hrd0, ?_, ?_, evL_nd nd, evL_sz sz⟩
          · exact ls_dK (qAll _ _ hkr8) _ _ (qAll _ _ hL8)
          · rw [hG9]
            refine ot4.stepR nd own3r hkr9 (ki3.mono fun _ _ z => (z.mono (sLS (fr_same qAll))).mono (ls_dK hkr9)) ⟨g, rfl, ?_⟩
            refine ls_dK hkr9 _ _ (fr_in ?_ hg0)
            rw [upd_same, List.map_append]
            rfl
        · rintro σ H5 ⟨v6, v7, v8, v9, own, rfl, sm, hL, ot, nd, sz⟩
          have e1 : (enumI (wordsL t)).take ((wordsL t).map V.str).length = enumI (wordsL t) := by rw [List.length_map, ← enumI_len, List.take_length]
          rw [e1] at ot nd sz
          have e2 : (doc.take (j + 1)).foldl (docL m) ((ms.take i).foldl tabL []) = (enumI (wordsL t)).foldl (evL m f) ((doc.take j).foldl (docL m) ((ms.take i).foldl tabL [])) := foldl_take _ _ _ hft
          rw [List.length_map] at sz
          refine ⟨some (.str f), some (.str t), v6, v7, v8, v9, own, rfl, sm, by rw [e2]; exact ot, by rw [e2]; exact nd, by rw [e2]; exact sz.mono (by omega)⟩
      · rintro σ H4 ⟨v4, v5, v6, v7, v8, v9, own, rfl, sm, ot, nd, sz⟩
        have e1 : doc.take ys.length = doc := by rw [pd_len pdd, List.take_length]
        rw [e1] at ot nd sz
        have e2 : (ms.take (i + 1)).foldl tabL [] = doc.foldl (docL m) ((ms.take i).foldl tabL []) := foldl_take _ _ _ hmd
        have := dk.len
        rw [← pd_len pdd] at this
        refine ⟨some (.int m), some (.ref da), v4, v5, v6, v7, v8, v9, own, rfl, sm, by rw [e2]; exact ot, by rw [e2]; exact nd, by rw [e2]; exact sz.mono (by omega)⟩
    · rintro σ H4 ⟨v2, v3, v4, v5, v6, v7, v8, v9, own, rfl, sm, ot, nd, sz⟩
      have e1 : ms.take xs.length = ms := by rw [pd_len pd, List.take_length]
      rw [e1] at ot nd sz
      exact ⟨_, rfl, k d H4 sm hd ((ot.done nd.1).mono fr_sub) (sz.mono (by rw [pd_len pd]; have := mk.len; omega))⟩
end
end KP
namespace KP
open PySem L2
section
variable {P : Program} {w : World} {K : PySem.W.Frag} {mg : Str → Option Value} {base : Heap}
/-! == and != of equal data; what the methods are -/
theorem ne_false {d : PyData} (h : d.plain = true) : (!PyData.eqv d d) = false := by rw [SeqAt.eqv_refl_plain d h]; rfl
def rNeP (K : PySem.W.Frag) : R2 := fun x y H Q => ∃ d, Dp K H x d ∧ Dp K H y d ∧ d.plain = true ∧ d.depth ≤ 64 ∧ Q (.bl false) H
def rEqP (K : PySem.W.Frag) : R2 := fun x y H Q => ∃ d, Dp K H x d ∧ Dp K H y d ∧ d.plain = true ∧ d.depth ≤ 64 ∧ Q (.bl true) H
theorem op_neP {X : Cx} (hu : X.A.units + 64 < cLine) : OpR X (compareOp .NotEq) (rNeP X.K) := by
  intro pins s σ H x y v u Q I rx ry h
  obtain ⟨d, hd, he, pl, dp, q⟩ := h
  obtain ⟨as, r1⟩ := Dp.reads I d x v hd rx
  obtain ⟨bs, r2⟩ := Dp.reads I d y u he ry
  refine SeqAt.ne_plain r1 r2 pl pl ?_ ?_
  · rw [Nat.min_self]; omega
  · rw [ne_false pl]; exact ⟨.bl _, H, I, rfl, q⟩
theorem op_eqP {X : Cx} (hu : X.A.units + 64 < cLine) : OpR X (compareOp .Eq) (rEqP X.K) := by
  intro pins s σ H x y v u Q I rx ry h
  obtain ⟨d, hd, he, pl, dp, q⟩ := h
  obtain ⟨as, r1⟩ := Dp.reads I d x v hd rx
  obtain ⟨bs, r2⟩ := Dp.reads I d y u he ry
  refine SeqAt.eq_plain r1 r2 pl pl ?_ ?_
  · rw [Nat.min_self]; omega
  · rw [SeqAt.eqv_refl_plain d pl]; exact ⟨.bl _, H, I, rfl, q⟩
/-! data -/
def PlD (n : Nat) (d : PyData) : Prop := d.plain = true ∧ d.depth ≤ n
theorem pl_all {n : Nat} : ∀ {ds : List PyData}, (∀ d ∈ ds, PlD n d) → PyData.plainAll ds = true ∧ PyData.depthAll ds ≤ n
  | [], _ => ⟨rfl, Nat.zero_le _⟩
  | d :: ds, h => by
    have h1 := h d List.mem_cons_self
    have h2 := pl_all fun x hx => h x (List.mem_cons_of_mem _ hx)
    refine ⟨?_, ?_⟩
    · unfold PyData.plainAll; rw [h1.1, h2.1]; rfl
    · unfold PyData.depthAll; exact Nat.max_le.mpr ⟨h1.2, h2.2⟩
theorem pl_list {n : Nat} {ds : List PyData} (h : ∀ d ∈ ds, PlD n d) : PlD (n + 1) (.list ds) := by
  have q := pl_all h
  refine ⟨by unfold PyData.plain; exact q.1, ?_⟩
  unfold PyData.depth
  have := q.2
  omega
theorem pl_tup {n : Nat} {ds : List PyData} (h : ∀ d ∈ ds, PlD n d) : PlD (n + 1) (.tuple ds) := by
  have q := pl_all h
  refine ⟨by unfold PyData.plain; exact q.1, ?_⟩
  unfold PyData.depth
  have := q.2
  omega
theorem pl_int {n : Nat} (i : Int) : PlD (n + 1) (.int i) := ⟨rfl, Nat.zero_le _⟩
theorem pl_str {n : Nat} (x : Str) : PlD (n + 1) (.str x) := ⟨rfl, Nat.zero_le _⟩
theorem dp_all {K : PySem.W.Frag} {H : Hp} {α : Type} {R : V → α → Prop} (g : α → PyData) (hg : ∀ v a, R v a → Dp K H v (g a)) : ∀ {vs : List V} {as : List α}, Paired R vs as → DpAll K H vs (as.map g)
  | _, _, .nil => .nil
  | _, _, .cons r t => .cons (hg _ _ r) (dp_all g hg t)
def dInts (ns : List Int) : PyData := .list (ns.map PyData.int)
def dStrs (ns : List Str) : PyData := .list (ns.map PyData.str)
def dRow (r : Int × List Int) : PyData := .tuple [.int r.1, dInts r.2]
def dRows (rs : Rows) : PyData := .list (rs.map dRow)
def dFt (ft : Str × Str) : PyData := .tuple [.str ft.1, .str ft.2]
def dMd (md : Int × Doc) : PyData := .tuple [.int md.1, .list (md.2.map dFt)]
def dMakes (ms : Makes) : PyData := .list (ms.map dMd)
theorem pl_ints {n : Nat} (ns : List Int) : PlD (n + 2) (dInts ns) := pl_list (n := n + 1) fun d hd => by obtain ⟨i, _, rfl⟩ := List.mem_map.mp hd; exact pl_int i
theorem pl_strs {n : Nat} (ns : List Str) : PlD (n + 2) (dStrs ns) := pl_list (n := n + 1) fun d hd => by obtain ⟨i, _, rfl⟩ := List.mem_map.mp hd; exact pl_str i
theorem pl_two {n : Nat} {a b : PyData} (ha : PlD n a) (hb : PlD n b) : PlD (n + 1) (.tuple [a, b]) := pl_tup fun d hd => by
  rcases List.mem_cons.mp hd with e | hd
  · rw [e]; exact ha
  · rw [List.mem_singleton.mp hd]; exact hb
theorem pl_rows (rs : Rows) : PlD 64 (dRows rs) := pl_list (n := 63) fun d hd => by obtain ⟨i, _, rfl⟩ := List.mem_map.mp hd; exact pl_two (n := 62) (pl_int _) (pl_ints _)
theorem pl_makes (ms : Makes) : PlD 64 (dMakes ms) := pl_list (n := 63) fun d hd => by
  obtain ⟨i, _, rfl⟩ := List.mem_map.mp hd
  refine pl_two (n := 62) (pl_int _) (pl_list (n := 61) fun d hd => ?_)
  obtain ⟨j, _, rfl⟩ := List.mem_map.mp hd
  exact pl_two (n := 60) (pl_str _) (pl_str _)
section
variable {H : Hp}
theorem pd_map {α β : Type} (g : α → β) : ∀ (xs : List α), Paired (fun (v : β) (x : α) => v = g x) (xs.map g) xs
  | [] => .nil
  | x :: xs => .cons rfl (pd_map g xs)
theorem dp_ints {l : Addr} {ns : List Int} (h : H l = some (.lst (ns.map V.int))) : Dp K H (.ref l) (dInts ns) :=
  .lst (SqL.of h) (dp_all (R := fun (v : V) (x : Int) => v = V.int x) PyData.int (fun v a e => by rw [e]; exact .int _) (pd_map V.int ns))
theorem dp_strs {l : Addr} {ns : List Str} (h : H l = some (.lst (ns.map V.str))) : Dp K H (.ref l) (dStrs ns) :=
  .lst (SqL.of h) (dp_all (R := fun (v : V) (x : Str) => v = V.str x) PyData.str (fun v a e => by rw [e]; exact .str _) (pd_map V.str ns))
theorem dp_rows {l : Addr} {ys : List V} {rs : Rows} (h : H l = some (.lst ys)) (p : Paired (RowV H) ys rs) : Dp K H (.ref l) (dRows rs) :=
  .lst (SqL.of h) (dp_all (R := RowV H) dRow (fun v a e => by
    obtain ⟨t, l, rfl, h1, h2⟩ := e
    exact .tup (SqT.of h1) (.cons (.int _) (.cons (dp_ints h2) .nil))) p)
theorem dp_makes {l : Addr} {ms : Makes} (h : MakesAt H l ms) : Dp K H (.ref l) (dMakes ms) := by
  obtain ⟨xs, h1, h2⟩ := h
  refine .lst (SqL.of h1) (dp_all (R := MD H) dMd (fun v a e => ?_) h2)
  obtain ⟨p, d, rfl, h3, ys, h4, h5⟩ := e
  refine .tup (SqT.of h3) (.cons (.int _) (.cons (.lst (SqL.of h4) (dp_all (R := FT H) dFt (fun v a e => ?_) h5)) .nil))
  obtain ⟨t, rfl, h6⟩ := e
  exact .tup (SqT.of h6) (.cons (.str _) (.cons (.str _) .nil))
end
/-- the methods of a Piece -/
structure Ms (K : PySem.W.Frag) (mg : Str → Option Value) (C fmk ffi fwd fpo fle fcp : Addr) (dmk dfi dwd dpo dle dcp : FuncData) : Prop where
  mkF : Fun K "makes" "Piece.makes" sMakes fmk dmk
  mkB : Binds K dmk ["self"] []
  mkM : Meth K C "makes" fmk
  fiF : Fun K "fields" "Piece.fields" sFields ffi dfi
  fiB : Binds K dfi ["self"] []
  fiM : Meth K C "fields" ffi
  wdF : Fun K "words" "Piece.words" sWords fwd dwd
  wdB : Binds K dwd ["self", "field"] []
  wdM : Meth K C "words" fwd
  poF : Fun K "postings" "Piece.postings" sPostings fpo dpo
  poB : Binds K dpo ["self", "field", "word"] []
  poM : Meth K C "postings" fpo
  leF : Fun K "length" "Piece.length" sLength fle dle
  leB : Binds K dle ["self", "make", "field"] []
  leM : Meth K C "length" fle
  copied : DefAt K mg "copied_postings" sCopied ["postings"] fcp dcp
theorem fl_makes (a b c : Addr) : (flds a b c).lookup ("makes" : Str) = none := flds_no a b c (by decide +kernel) (by decide +kernel) (by decide +kernel)
theorem fl_fields (a b c : Addr) : (flds a b c).lookup ("fields" : Str) = none := flds_no a b c (by decide +kernel) (by decide +kernel) (by decide +kernel)
theorem fl_words (a b c : Addr) : (flds a b c).lookup ("words" : Str) = none := flds_no a b c (by decide +kernel) (by decide +kernel) (by decide +kernel)
theorem fl_postings (a b c : Addr) : (flds a b c).lookup ("postings" : Str) = none := flds_no a b c (by decide +kernel) (by decide +kernel) (by decide +kernel)
theorem fl_length (a b c : Addr) : (flds a b c).lookup ("length" : Str) = none := flds_no a b c (by decide +kernel) (by decide +kernel) (by decide +kernel)
end
end KP
namespace KP
open PySem L2
section
variable {P : Program} {w : World} {K : PySem.W.Frag} {mg : Str → Option Value} {base : Heap}
/-! _law_tells -/
theorem rise_of : ∀ (ms : Makes) (b : Int), (∀ p ∈ ms, b ≤ p.1) → (ms.Pairwise fun p q => p.1 < q.1) → (∀ p ∈ ms, DocOk p.2) → Rise b ms
  | [], _, _, _, _ => trivial
  | p :: r, b, h1, h2, h3 => by
    obtain ⟨h4, h5⟩ := List.pairwise_cons.mp h2
    exact ⟨h1 p List.mem_cons_self, (h3 p List.mem_cons_self).nd, rise_of r _ (fun q hq => h4 q hq) h5 fun q hq => h3 q (List.mem_cons_of_mem _ hq)⟩
theorem MakesOk.riseB {ms : Makes} (h : MakesOk ms) : Rise 0 ms := rise_of ms 0 h.pos h.rise h.docs
/-- a document as a dict -/
def kvD (d : Doc) : List (Key × V) := d.map fun ft => (Sum.inr ft.1, V.str ft.2)
theorem kvD_val (f : Str) : ∀ d : Doc, valV (kvD d) (Sum.inr f : Key) = (look d f).map V.str
  | [] => rfl
  | p :: r => by
    by_cases e : p.1 = f
    · rw [look_pos e]; exact valV_pos (congrArg Sum.inr e)
    · rw [look_neg e, ← kvD_val f r]; exact valV_neg fun z => e (Sum.inr.inj z)
theorem kvD_merge : ∀ (d acc : Doc), ((acc ++ d).map (·.1)).Nodup → mergeK (kvD acc) (kvD d) = kvD (acc ++ d)
  | [], acc, _ => by rw [List.append_nil]; rfl
  | p :: r, acc, h => by
    have e : acc ++ p :: r = (acc ++ [p]) ++ r := by simp
    have hn : look acc p.1 = none := look_none.mpr fun z => by
      rw [List.map_append] at h
      exact (List.nodup_append.mp h).2.2 _ z _ (by simp) rfl
    have ih := kvD_merge r (acc ++ [p]) (by rw [← e]; exact h)
    have e2 : kvD (acc ++ [p]) = putK (kvD acc) (Sum.inr p.1 : Key) (V.str p.2) := by
      rw [putK_new _ (by rw [kvD_val, hn]; rfl)]
      unfold kvD
      rw [List.map_append]; rfl
    rw [e, ← ih, e2]
    rfl
theorem ft_refs {H : Hp} : ∀ {xs : List V} {d : Doc}, Paired (FT H) xs d → ∃ ps : List Addr, xs = ps.map V.ref ∧ Paired (fun p (kv : Key × V) => SqT K H p [kV kv.1, kv.2]) ps (kvD d)
  | _, _, .nil => ⟨[], rfl, .nil⟩
  | _, _, .cons r t => by
    obtain ⟨ps, h1, h2⟩ := ft_refs t
    obtain ⟨p, e, h⟩ := r
    exact ⟨p :: ps, by rw [e, h1]; rfl, .cons (SqT.of h) h2⟩
theorem call_isiE {X : Cx} {K : PySem.W.Frag} (h : X.K = K := by rfl) : CallR X (.builtin "isinstance") (rIsi K) := by
  subst h
  exact call_isi
/-- a told row: its tuple now, its list as before -/
def RowT (H1 H : Hp) (x : V) (r : Int × List Int) : Prop := ∃ t l : Addr, x = .ref t ∧ H t = some (.tup [.int r.1, .ref l]) ∧ H1 l = some (.lst (r.2.map V.int))
theorem int_not_bool : kitB "int" "bool" = some false := by decide +kernel
abbrev nLTells : List Str := ["_law_thing", "_law_makes_here", "_law_table_here", "_law_field", "_law_words_here", "_law_word", "_law_rows", "_law_told", "_law_make", "_law_places", "_law_one", "_law_document_here"]
theorem scLTells : FnScope nLTells ["_law_thing", "_law_makes_here"] (defScope sLTells) := ⟨rfl, rfl, rfl, by decide +kernel, rfl, by decide +kernel, by decide +kernel⟩
def spLTells (C : Addr) : Sp := fun vs H Q _ => ∃ (x a : Addr) (ms : Makes), vs = [.ref x, .ref a] ∧ PieceAt H C x ms ∧ MakesAt H a ms ∧ MakesOk ms ∧ ∀ H', Same H H' → Q (.bl true) H'
theorem ok_ltells {f C fmk ffi fwd fpo fle fcp ftb flw : Addr} {fd dmk dfi dwd dpo dle dcp dtb dlw : FuncData} (F : Fun K "_law_tells" "_law_tells" sLTells f fd) (T : Txt K mg C) (M : Ms K mg C fmk ffi fwd fpo fle fcp dmk dfi dwd dpo dle dcp)
    (TB : DefAt K mg "_law_table" sLTable ["_law_makes_here"] ftb dtb) (LW : DefAt K mg "_law_words" sLWords ["_law_text_here"] flw dlw) : FnOk P w K mg base CX0 3 f fd ["_law_thing", "_law_makes_here"] (spLTells C) := by
  have GT : FnOk P w K mg base CX0 2 ftb dtb ["_law_makes_here"] spLTable := ok_ltable TB.fn T LW
  have GL : FnOk P w K mg base CX0 1 flw dlw ["_law_text_here"] spLWords := ok_lwords LW.fn T
  have Gfi : FnOk P w K mg base CX0 1 ffi dfi ["self"] (spFields C) := ok_fields M.fiF T
  have Gwd : FnOk P w K mg base CX0 1 fwd dwd ["self", "field"] (spWords C) := ok_words M.wdF T
  have Gpo : FnOk P w K mg base CX0 2 fpo dpo ["self", "field", "word"] (spPostings C) := ok_postings M.poF T M.copied
  have Gle : FnOk P w K mg base CX0 1 fle dle ["self", "make", "field"] (spLength C) := ok_length M.leF T
  refine F.ok scLTells (fun vs H Q E h => ?_) (fun cdv A outer s H vs Q E hr h => ?_)
  · obtain ⟨_, _, _, rfl, _⟩ := h
    rfl
  · obtain ⟨x, a, ms, rfl, pc, mk, mo, k⟩ := h
    have hu := hu_of hr
    have hu64 := hr.units
    have hr1 : Room 1 _ := hr.mono (by decide)
    have hr2 : Room 2 _ := hr.mono (by decide)
    refine ⟨_, pss_cons (ps_set (i := 2) scLTells.nd rfl (Or.inl rfl) (pe_call GT hr2 rfl TB.at_ TB.fn.kp TB.bd .nil pass0 (pa_cons (pv 1) pa_nil)))
      (pss_cons (ps_if (pt_cmpR (op_neP hu64) (pe_meth0 (pv 0) T.cl M.fiM Gfi hr1 M.fiB .nil pass0) (pe_sortedK rfl rfl T.sorted (pv 2)) (nomark _)) pss_never pss_nil)
      (pss_cons (ps_for PassesOwn.never rfl (pi_list (pe_op op_cat (pe_sortedK rfl rfl T.sorted (pv 2)) (pe_lst (pa_cons pe_str pa_nil)))) (pg_name (i := 3) scLTells.nd rfl (Or.inl rfl))
        (pss_cons (ps_set (i := 4) scLTells.nd rfl (Or.inl rfl) (pe_dget2 hu (pv 2) (pv 3) pe_dnewK ⟨rfl, rfl, rfl, rfl⟩))
        (pss_cons (ps_if (pt_cmpR (op_neP hu64) (pe_meth (pv 0) T.cl M.wdM Gwd hr1 M.wdB .nil pass0 (pa_cons (pv 3) pa_nil)) (pe_sortedK rfl rfl T.sorted (pv 4)) (nomark _)) pss_never pss_nil)
        (pss_cons (ps_for PassesOwn.never rfl (pi_list (pe_op op_cat (pe_sortedK rfl rfl T.sorted (pv 4)) (pe_lst (pa_cons pe_str pa_nil)))) (pg_name (i := 5) scLTells.nd rfl (Or.inl rfl))
          (pss_cons (ps_set (i := 6) scLTells.nd rfl (Or.inr rfl) (pe_dget2 hu (pv 4) (pv 5) pe_dnewK ⟨rfl, rfl, rfl, rfl⟩))
          (pss_cons (ps_set (i := 7) scLTells.nd rfl (Or.inl rfl) (pe_meth (pv 0) T.cl M.poM Gpo hr2 M.poB .nil pass0 (pa_cons (pv 3) (pa_cons (pv 5) pa_nil))))
          (pss_cons (ps_if (pt_cmpR (op_neP hu64) (pv 7) (pe_lc (own := [("_law_make", 8)]) (g := gName 8) (tt := tYes) rfl scLTells.nd (pi_list (pe_sortedK rfl rfl T.sorted (pv 6))) (blkOk_by (N := nLTells) (sc := defScope sLTells) (by decide +kernel))
                (fun _ _ _ _ _ => pg_name (i := 8) scLTells.nd rfl (Or.inl rfl)) (fun _ _ _ _ _ => pts_nil)
                (fun _ _ _ _ _ => pe_tup (pa_cons (pv 8) (pa_cons (pe_dget hu (pv 6) (pv 8) (fun _ _ => rfl)) pa_nil)))) (nomark _)) pss_never pss_nil)
          (pss_one (ps_for PassesOwn.never rfl (pi_list (pv 7)) (pg_tup rfl (pgs_cons (pg_name (i := 8) scLTells.nd rfl (Or.inl rfl)) (pgs_cons (pg_name (i := 9) scLTells.nd rfl (Or.inl rfl)) pgs_nil)))
            (pss_one (ps_if (pt_cmpR (op_neP hu64) (pe_lc (own := [("_law_one", 10)]) (g := gName 10) rfl scLTells.nd (pi_list (pe_op op_cat (pe_lst (pa_cons (pv 8) pa_nil)) (pv 9))) (blkOk_by (N := nLTells) (sc := defScope sLTells) (by decide +kernel))
                (fun _ _ _ _ _ => pg_name (i := 10) scLTells.nd rfl (Or.inl rfl)) (fun _ _ _ _ _ => pts_one (pt_val (pe_callB (call_isiE (K := K)) (by rfl) T.isinstance (by decide +kernel) (pa_cons (pv 10) (pa_cons (pe_bltn (v := .ty "bool") (u := .type "bool") rfl T.bool (by decide +kernel) rfl) pa_nil)))))
                (fun _ _ _ _ _ => pv 10)) (pe_lst pa_nil) (nomark _)) pss_never pss_nil))))))))
        (pss_one (ps_for PassesOwn.never rfl (pi_list (pv 1)) (pg_tup rfl (pgs_cons (pg_name (i := 8) scLTells.nd rfl (Or.inl rfl)) (pgs_cons (pg_name (i := 11) scLTells.nd rfl (Or.inl rfl)) pgs_nil)))
            (pss_one (ps_if (pt_cmpR op_ne (pe_meth (pv 0) T.cl M.leM Gle hr1 M.leB .nil pass0 (pa_cons (pv 8) (pa_cons (pv 3) pa_nil)))
              (pe_callB call_len_seq (by rfl) T.len PySem.boot_len (pa_cons (pe_call GL hr1 rfl LW.at_ LW.fn.kp LW.bd .nil pass0 (pa_cons (pe_dget2 hu (pe_callTy (T := "dict") (call_dictP rfl) (by rfl) T.dict (by decide +kernel) (pa_cons (pv 11) pa_nil)) (pv 3) pe_str ⟨rfl, rfl, rfl, rfl⟩) pa_nil)) pa_nil)) (nomark _)) pss_never pss_nil))))))))
      (pss_one (ps_ret pe_bl)))), ?_⟩
    have hR := mo.riseB
    refine ⟨_, rfl, a, ms, rfl, mk, mo, fun d H1 s1 hd lt z3 => ?_⟩
    rw [← tabOf_eq hR] at lt z3
    obtain ⟨kf, hkf, kdf⟩ := lt
    have pc1 := pc.mono s1
    obtain ⟨dx, hl, ld, tb, hx, pcr⟩ := pc1
    have pc1 : PieceAt H1 C x ms := ⟨dx, hl, ld, tb, hx, pcr⟩
    clear pcr
    refine ⟨_, rfl, x, dx, _, rfl, hx, fl_fields hl ld tb, x, ms, rfl, pc1, fun l1 hl1 => ?_⟩
    have q1 := same_new (o := HO.lst ((sortS ((tabOf ms).map (·.1))).map V.str)) hl1
    refine ⟨_, rfl, d, kf, rfl, .inl (q1 _ _ hkf), .inl ⟨_, kdf.keys, fun l2 hl2 => ?_⟩⟩
    have q2 := same_new (o := HO.lst ((sortS ((tabOf ms).map (·.1))).map V.str)) hl2
    refine ⟨dStrs (sortS ((tabOf ms).map (·.1))), dp_strs (q2 _ _ upd_same), dp_strs upd_same, (pl_strs (n := 62) _).1, (pl_strs (n := 62) _).2, _, rfl, iteF ?_⟩
    have s2 := (q1.trans q2)
    refine ⟨_, rfl, d, kf, rfl, .inl (s2 _ _ hkf), .inl ⟨_, kdf.keys, fun l3 hl3 => ?_⟩⟩
    have q3 := same_new (o := HO.lst ((sortS ((tabOf ms).map (·.1))).map V.str)) hl3
    refine ⟨(by show 1 ≤ sizeLine; decide), fun l4 hl4 => ?_⟩
    have q4 := same_new (o := HO.lst [V.str ("nothing" : Str)]) hl4
    refine ⟨l3, l4, _, _, rfl, rfl, q4 _ _ upd_same, upd_same, ?_, fun g hg => ?_⟩
    · rw [List.length_map, (sortS_perm _).length_eq, List.length_map]
      exact size_line (by show _ + 1 ≤ _; have := (sz_tabOf mo).1; omega)
    obtain ⟨Hg, eHg⟩ : ∃ Hg, Hg = upd (upd (upd (upd (upd H1 l1 (.lst ((sortS ((tabOf ms).map (·.1))).map V.str))) l2 (.lst ((sortS ((tabOf ms).map (·.1))).map V.str))) l3 (.lst ((sortS ((tabOf ms).map (·.1))).map V.str))) l4 (.lst [V.str ("nothing" : Str)])) g (.lst ((sortS ((tabOf ms).map (·.1))).map V.str ++ [V.str ("nothing" : Str)])) := ⟨_, rfl⟩
    have sg : Same H1 Hg := by rw [eHg]; exact ((s2.trans q3).trans q4).trans (same_new hg)
    have hgg : Hg g = some (.lst ((sortS ((tabOf ms).map (·.1))).map V.str ++ [V.str ("nothing" : Str)])) := by rw [eHg, upd_same]
    rw [← eHg]
    clear eHg q1 q2 q3 q4 s2 hl1 hl2 hl3 hl4 hg
    have pcg := pc1.mono sg
    have hxg := sg _ _ hx
    have hkfg := sg _ _ hkf
    have kdfg := kdf.mono fun _ _ z => z.mono sg
    have mkg := (mk.mono (sTS s1) (sLS s1)).mono (sTS sg) (sLS sg)
    have sHg := s1.trans sg
    clear pc1 hx hkf kdf sg s1
    obtain ⟨xs, hA, pdm⟩ := mkg
    have hz := sz_tabOf mo
    refine ⟨g, rfl, ⟨_, SqL.of hgg⟩, for_it walk_list
      (fun i σ H2 => ∃ (v3 v4 v5 v6 v7 v8 v9 v10 v11 : Option V), σ = [some (.ref x), some (.ref a), some (.ref d), v3, v4, v5, v6, v7, v8, v9, v10, v11] ∧ Same Hg H2)
      ⟨none, none, none, none, none, none, none, none, none, rfl, Same.refl Hg⟩ (fun i σ H2 _ ⟨_, _, _, _, _, _, _, _, _, _, sm⟩ => SqL.of (sm _ _ hgg)) ?_ ?_⟩
    · rintro i y σ H2 H3 hi ⟨v3, v4, v5, v6, v7, v8, v9, v10, v11, rfl, sm⟩ ⟨rfl, hy⟩
      obtain ⟨f, rfl⟩ : ∃ f, y = V.str f := by
        rcases List.mem_append.mp (List.mem_of_getElem? hy) with q | q
        · obtain ⟨f, _, rfl⟩ := List.mem_map.mp q; exact ⟨f, rfl⟩
        · exact ⟨_, List.mem_singleton.mp q⟩
      refine ⟨_, rfl, d, rfl, .inl ⟨kf, .inl (sm _ _ hkfg)⟩, _, rfl, fun e he => ?_⟩
      have q1 := same_new (o := HO.dK []) he
      have sm1 := sm.trans q1
      refine ⟨_, DGet.k (k := Sum.inr f) (sm1 _ _ hkfg), ?_⟩
      obtain ⟨wd, kw, ew, hwd, kdw⟩ : WordsL (upd H3 e (.dK [])) ((valV kf (Sum.inr f : Key)).getD (.ref e)) ((look (tabOf ms) f).getD []) :=
        RO.getD ((kdfg.mono fun _ _ z => z.mono sm1).val f) ⟨e, [], rfl, upd_same, .nil⟩
      rw [ew]
      obtain ⟨U, hU⟩ : ∃ U, U = (look (tabOf ms) f).getD [] := ⟨_, rfl⟩
      obtain ⟨H4, hH4⟩ : ∃ H4, H4 = upd H3 e (.dK []) := ⟨_, rfl⟩
      rw [← hU] at kdw
      rw [← hH4] at sm1 hwd kdw ⊢
      clear hH4 q1 ew he
      have pc4 := pcg.mono sm1
      refine ⟨_, rfl, x, dx, _, rfl, sm1 _ _ hxg, fl_words hl ld tb, _, rfl, x, ms, f, rfl, pc4, fun l1 H5 s5 hl1 hL1 => ?_⟩
      rw [← hU] at hL1
      refine ⟨_, rfl, wd, kw, rfl, .inl (s5 _ _ hwd), .inl ⟨_, kdw.keys, fun l2 hl2 => ?_⟩⟩
      have q2 := same_new (o := HO.lst ((sortS (U.map (·.1))).map V.str)) hl2
      refine ⟨dStrs (sortS (U.map (·.1))), dp_strs (q2 _ _ hL1), dp_strs upd_same, (pl_strs (n := 62) _).1, (pl_strs (n := 62) _).2, _, rfl, iteF ?_⟩
      have s6 := s5.trans q2
      refine ⟨_, rfl, wd, kw, rfl, .inl (s6 _ _ hwd), .inl ⟨_, kdw.keys, fun l3 hl3 => ?_⟩⟩
      have q3 := same_new (o := HO.lst ((sortS (U.map (·.1))).map V.str)) hl3
      refine ⟨(by show 1 ≤ sizeLine; decide), fun l4 hl4 => ?_⟩
      have q4 := same_new (o := HO.lst [V.str ("nothing" : Str)]) hl4
      refine ⟨l3, l4, _, _, rfl, rfl, q4 _ _ upd_same, upd_same, ?_, fun g2 hg2 => ?_⟩
      · rw [List.length_map, (sortS_perm _).length_eq, List.length_map]
        exact size_line (by show _ + 1 ≤ _; have := (hz.2 f).1; rw [← hU] at this; omega)
      obtain ⟨Hw, eHw⟩ : ∃ Hw, Hw = upd (upd (upd (upd H5 l2 (.lst ((sortS (U.map (·.1))).map V.str))) l3 (.lst ((sortS (U.map (·.1))).map V.str))) l4 (.lst [V.str ("nothing" : Str)])) g2 (.lst ((sortS (U.map (·.1))).map V.str ++ [V.str ("nothing" : Str)])) := ⟨_, rfl⟩
      have sw : Same H4 Hw := by rw [eHw]; exact ((s6.trans q3).trans q4).trans (same_new hg2)
      have hgw : Hw g2 = some (.lst ((sortS (U.map (·.1))).map V.str ++ [V.str ("nothing" : Str)])) := by rw [eHw, upd_same]
      rw [← eHw]
      clear eHw q2 q3 q4 s6 hl1 hl2 hl3 hl4 hg2 hL1 s5
      have sgw := sm1.trans sw
      have hwdw := sw _ _ hwd
      have kdww := kdw.mono fun _ _ z => z.mono sw
      clear hwd kdw sw sm1 sm pc4
      refine ⟨g2, rfl, ⟨_, SqL.of hgw⟩, for_it walk_list
        (fun i σ H2 => ∃ (v5 v6 v7 v8 v9 v10 v11 : Option V), σ = [some (.ref x), some (.ref a), some (.ref d), some (.str f), some (.ref wd), v5, v6, v7, v8, v9, v10, v11] ∧ Same Hw H2)
        ⟨v5, v6, v7, v8, v9, v10, v11, rfl, Same.refl Hw⟩ (fun i σ H2 _ ⟨_, _, _, _, _, _, _, _, sm⟩ => SqL.of (sm _ _ hgw)) ?_ ?_⟩
      · clear v5 v6 v7 v8 v9 v10 v11
        rintro j y σ H2 H3 hj ⟨v5, v6, v7, v8, v9, v10, v11, rfl, sm⟩ ⟨rfl, hy⟩
        obtain ⟨w, rfl⟩ : ∃ w, y = V.str w := by
          rcases List.mem_append.mp (List.mem_of_getElem? hy) with q | q
          · obtain ⟨f, _, rfl⟩ := List.mem_map.mp q; exact ⟨f, rfl⟩
          · exact ⟨_, List.mem_singleton.mp q⟩
        refine ⟨_, rfl, wd, rfl, .inl ⟨kw, .inl (sm _ _ hwdw)⟩, _, rfl, fun e he => ?_⟩
        have q1 := same_new (o := HO.dK []) he
        have sm1 := sm.trans q1
        refine ⟨_, DGet.k (k := Sum.inr w) (sm1 _ _ hwdw), ?_⟩
        obtain ⟨rd, kr, er, hrd, kir⟩ : RowsL (upd H3 e (.dK [])) ((valV kw (Sum.inr w : Key)).getD (.ref e)) ((look U w).getD []) :=
          RO.getD ((kdww.mono fun _ _ z => z.mono sm1).val w) ⟨e, [], rfl, upd_same, .nil⟩
        rw [er]
        obtain ⟨rows, hrows⟩ : ∃ rows, rows = rowsAt (tabOf ms) f w := ⟨_, rfl⟩
        have er2 : (look U w).getD [] = rows := by rw [hrows, hU]; rfl
        rw [er2] at kir
        have rise : rows.Pairwise fun p q => p.1 < q.1 := by rw [hrows]; exact rowsAt_rise hR f w
        have rlen : rows.length ≤ 900000 := by rw [hrows]; exact (hz.2 f).2 w
        obtain ⟨H4, hH4⟩ : ∃ H4, H4 = upd H3 e (.dK []) := ⟨_, rfl⟩
        rw [← hH4] at sm1 hrd kir ⊢
        clear hH4 q1 er he er2
        have pc4 := pcg.mono (sgw.trans sm1)
        refine ⟨_, rfl, x, dx, _, rfl, (sgw.trans sm1) _ _ hxg, fl_postings hl ld tb, _, rfl, _, rfl, x, ms, f, w, rfl, pc4, mo, fun l1 ys H5 s5 hl1 hL1 pry => ?_⟩
        rw [← hrows] at pry
        have pry5 : Paired (RowV H5) ys rows := Paired.mapP pry fun _ _ z => z.mono (sTS fr_sub) (sLS fr_sub)
        clear pry
        have hrd5 := s5 _ _ hrd
        have kir5 := kir.mono fun _ _ z => z.mono (sLS s5)
        have pr : (rows.map (·.1)).Pairwise (· < ·) := List.pairwise_map.mpr rise
        have ndr : (rows.map (·.1)).Nodup := pr.imp fun h => Int.ne_of_lt h
        refine ⟨_, rfl, _, rfl, rd, kr, rfl, .inl hrd5, .inr ⟨rows.map (·.1), kir5.keys, pr, fun p hp => ?_⟩⟩
        have q6 := same_new (o := HO.lst ((rows.map (·.1)).map V.int)) hp
        refine ⟨p, rfl, ⟨_, SqL.of upd_same⟩, fun D hD => lc_it walk_list (fun i H6 => Same (upd H5 p (.lst ((rows.map (·.1)).map V.int))) H6 ∧ ∃ ts, H6 D = some (.lst ts) ∧ Paired (RowT H5 H6) ts (rows.take i))
          ⟨same_new hD, [], upd_same, .nil⟩ (fun i H2 _ h => SqL.of (h.1 _ _ upd_same)) ?_ ?_⟩
        · rintro n y H6 H7 hn ⟨s6, ts, hT, pts⟩ ⟨rfl, hy⟩
          have hnr : n < rows.length := by rw [List.length_map, List.length_map] at hn; exact hn
          obtain ⟨⟨m, ps⟩, hr0⟩ : ∃ r, rows[n]? = some r := ⟨_, List.getElem?_eq_getElem hnr⟩
          have ey : y = V.int m := by
            rw [List.getElem?_map, List.getElem?_map, hr0] at hy
            exact (Option.some.inj hy).symm
          subst ey
          have lk : look rows m = some ps := look_of_mem ndr (List.mem_of_getElem? hr0)
          obtain ⟨v, ev, l, rfl, hl5⟩ := (kir5.val m).some_of lk
          have hrd7 := s6 _ _ (q6 _ _ hrd5)
          have dg : DGet H7 rd (V.int m) (some (V.ref l)) := by
            have := DGet.k (k := (Sum.inl m : Key)) hrd7
            rw [ev] at this
            exact this
          refine ⟨rfl, _, rfl, _, rfl, _, rfl, rd, _, rfl, dg, (by show 2 ≤ sizeLine; decide), fun t ht => ?_⟩
          have q7 := same_new (o := HO.tup [V.int m, V.ref l]) ht
          have hTt := q7 _ _ hT
          refine ⟨ts, hTt, size_lt (by rw [pd_len pts, List.length_take]; omega), same_at (s6.trans q7) hD, ts ++ [.ref t], upd_same, ?_⟩
          have et : rows.take (n + 1) = rows.take n ++ [(m, ps)] := by rw [List.take_add_one, hr0]; rfl
          rw [et]
          have h1 : RowT H5 (upd (upd H7 t (.tup [V.int m, V.ref l])) D (.lst (ts ++ [.ref t]))) (.ref t) (m, ps) := ⟨t, l, rfl, upd_oth upd_same (ne_of upd_same hTt (by intro z; cases z)), hl5⟩
          refine pd_snoc h1 (Paired.mapP pts fun _ _ z => ?_)
          obtain ⟨t', l', z1, z2, z3⟩ := z
          exact ⟨t', l', z1, ts_lst hTt _ _ (q7 _ _ z2), z3⟩
        rintro H6 ⟨s6, ts, hT, pts⟩
        have e6 : rows.take ((rows.map (·.1)).map V.int).length = rows := by rw [List.length_map, List.length_map, List.take_length]
        rw [e6] at pts
        have s56 := q6.trans s6
        have hL16 := s56 _ _ hL1
        have pry6 := Paired.mapP pry5 fun _ _ z => z.mono (sTS s56) (sLS s56)
        have pts6 : Paired (RowV H6) ts rows := Paired.mapP pts fun _ _ z => by
          obtain ⟨t', l', z1, z2, z3⟩ := z
          exact ⟨t', l', z1, z2, s56 _ _ z3⟩
        refine ⟨dRows rows, dp_rows hL16 pry6, dp_rows hT pts6, (pl_rows _).1, (pl_rows _).2, _, rfl, iteF ?_⟩
        have sw6 := (sm1.trans s5).trans s56
        clear sm sm1 s5 s56 s6 q6 pts pts6 hT pry5 hL1 hrd5 kir5 hrd kir pc4
        refine ⟨_, rfl, l1, rfl, ⟨ys, SqL.of hL16⟩, for_it walk_list
          (fun i σ H2 => ∃ (v8 v9 v10 v11 : Option V), σ = [some (.ref x), some (.ref a), some (.ref d), some (.str f), some (.ref wd), some (.str w), some (.ref rd), some (.ref l1), v8, v9, v10, v11] ∧ Same H6 H2)
          ⟨v8, v9, v10, v11, rfl, Same.refl H6⟩ (fun i σ H2 _ ⟨_, _, _, _, _, sm⟩ => SqL.of (sm _ _ hL16)) ?_ ?_⟩
        · rintro n y σ H7 H8 hn ⟨v8, v9, v10, v11, rfl, sm⟩ ⟨rfl, hy⟩
          obtain ⟨⟨m, ps⟩, hr0, t, l, rfl, ht, hl8⟩ := pd_get pry6 hy
          dsimp only at ht hl8
          have pl9 : ps.length ≤ 900000 := by
            have q := z3.2 f w m
            rw [← hrows, look_of_mem ndr (List.mem_of_getElem? hr0)] at q
            exact q
          refine ⟨t, _, rfl, SqT.of (sm _ _ ht), rfl, _, _, rfl, _, _, rfl, rfl, ?_⟩
          refine ⟨_, rfl, (by show 1 ≤ sizeLine; decide), fun b hb => ?_⟩
          have q7 := same_new (o := HO.lst [V.int m]) hb
          refine ⟨_, rfl, b, l, _, _, rfl, rfl, upd_same, q7 _ _ (sm _ _ hl8), size_line (by rw [List.length_map]; show 1 + _ ≤ _; omega), fun g3 hg3 => ?_⟩
          have q8 := same_new (o := HO.lst ([V.int m] ++ ps.map V.int)) hg3
          refine ⟨g3, rfl, ⟨_, SqL.of upd_same⟩, fun D2 hD2 => lc_it walk_list (fun i H9 => Same (upd (upd H8 b (.lst [V.int m])) g3 (.lst ([V.int m] ++ ps.map V.int))) H9 ∧ H9 D2 = some (.lst []))
            ⟨same_new hD2, upd_same⟩ (fun i H2 _ h => SqL.of (h.1 _ _ upd_same)) ?_ ?_⟩
          · rintro n2 y H9 H10 hn2 ⟨s9, hE⟩ ⟨rfl, hy⟩
            obtain ⟨z, rfl⟩ : ∃ z, y = V.int z := by
              rcases List.mem_append.mp (List.mem_of_getElem? hy) with q | q
              · exact ⟨_, List.mem_singleton.mp q⟩
              · obtain ⟨f, _, rfl⟩ := List.mem_map.mp q; exact ⟨f, rfl⟩
            refine ⟨rfl, _, rfl, _, _, _, _, false, rfl, .ty "bool", .base (.int z), kit_ty int_not_bool, false, rfl, iteF ⟨s9, hE⟩⟩
          rintro H9 ⟨s9, hE⟩
          refine ⟨Nat.zero_le _, fun n3 hn3 => ?_⟩
          have q9 := same_new (o := HO.lst []) hn3
          refine ⟨dStrs [], dp_strs (q9 _ _ hE), dp_strs upd_same, (pl_strs (n := 62) _).1, (pl_strs (n := 62) _).2, _, rfl, iteF ?_⟩
          exact ⟨some (.int m), some (.ref l), v10, v11, rfl, (((sm.trans q7).trans q8).trans s9).trans q9⟩
        · rintro σ H7 ⟨v8, v9, v10, v11, rfl, sm⟩
          exact ⟨some (.str w), some (.ref rd), some (.ref l1), v8, v9, v10, v11, rfl, sw6.trans sm⟩
      · rintro σ H5 ⟨v5, v6, v7, v8, v9, v10, v11, rfl, sm⟩
        have sm' := sgw.trans sm
        clear sm hwdw kdww hgw sgw
        refine ⟨_, rfl, a, rfl, ⟨xs, SqL.of (sm' _ _ hA)⟩, for_it walk_list
          (fun i σ H2 => ∃ (v5 v6 v7 v8 v9 v10 v11 : Option V), σ = [some (.ref x), some (.ref a), some (.ref d), some (.str f), some (.ref wd), v5, v6, v7, v8, v9, v10, v11] ∧ Same Hg H2)
          ⟨v5, v6, v7, v8, v9, v10, v11, rfl, sm'⟩ (fun i σ H2 _ ⟨_, _, _, _, _, _, _, _, sm⟩ => SqL.of (sm _ _ hA)) ?_ ?_⟩
        · clear v5 v6 v7 v8 v9 v10 v11 sm'
          rintro n y σ H7 H8 hn ⟨v5, v6, v7, v8, v9, v10, v11, rfl, sm⟩ ⟨rfl, hy⟩
          obtain ⟨⟨m, doc⟩, hmd, p, da, rfl, hp, dxs, hda, pdd⟩ := pd_get pdm hy
          dsimp only at hp pdd
          have hmem := List.mem_of_getElem? hmd
          have dk : DocOk doc := mo.docs _ hmem
          refine ⟨p, _, rfl, SqT.of (sm _ _ hp), rfl, _, _, rfl, _, _, rfl, rfl, ?_⟩
          refine ⟨_, rfl, x, dx, _, rfl, sm _ _ hxg, fl_length hl ld tb, _, rfl, _, rfl, x, ms, m, f, rfl, pcg.mono sm, fun H9 s9 => ?_⟩
          have sm9 := sm.trans s9
          obtain ⟨ps, eps, pps⟩ := ft_refs (K := K) (Paired.mapP pdd fun _ _ z => FT.mono z (sTS sm9))
          refine ⟨_, rfl, da, ps, kvD doc, rfl, ?_, ?_, fun q hq => ?_⟩
          · rw [← eps]; exact SqL.of (sm9 _ _ hda)
          · exact pps
          · have em : mergeK [] (kvD doc) = kvD doc := kvD_merge doc [] dk.nd
            rw [em]
            have q1 := same_new (o := HO.dK (kvD doc)) hq
            refine ⟨q, rfl, .inl ⟨_, .inl upd_same⟩, _, rfl, _, DGet.k (k := Sum.inr f) upd_same, ?_⟩
            rw [kvD_val]
            have et : ((look doc f).map V.str).getD (V.str ("" : Str)) = V.str ((look doc f).getD eS) := by
              rw [empty_str]
              cases look doc f <;> rfl
            rw [et]
            refine ⟨_, rfl, ?_, fun wl H10 s10 hwl hWL => ?_⟩
            · cases el : look doc f with
              | none => exact Nat.zero_le _
              | some t => exact (dk.tx (f, t) (look_mem el)).1
            · refine ⟨wl, _, rfl, .inl (SqL.of hWL), ?_⟩
              rw [List.length_map, ← lens_look ms 0 hR hmem]
              refine ⟨rfl, _, rfl, ?_⟩
              have e0 : (!decide (V.int (((look (lensOf ms) (m, f)).getD 0 : Nat) : Int) = V.int (((look (lensOf ms) (m, f)).getD 0 : Nat) : Int))) = false := by simp
              rw [e0]
              refine iteF ?_
              exact ⟨v5, v6, v7, some (.int m), v9, v10, some (.ref da), rfl, (sm9.trans q1).trans s10⟩
        · rintro σ H7 ⟨v5, v6, v7, v8, v9, v10, v11, rfl, sm⟩
          exact ⟨some (.str f), some (.ref wd), v5, v6, v7, v8, v9, v10, v11, rfl, sm⟩
    · rintro σ H5 ⟨v3, v4, v5, v6, v7, v8, v9, v10, v11, rfl, sm⟩
      exact k _ (sHg.trans sm)
end
end KP
namespace KP
open PySem L2
section
variable {P : Program} {w : World} {K : PySem.W.Frag} {mg : Str → Option Value} {base : Heap}
/-! _law_makes -/
theorem sql_same {H H' : Hp} {a : Addr} {xs : List V} (h : SqL K H a xs) (s : Same H H') : SqL K H' a xs := by
  rcases h with (h | ⟨od, h⟩) | h
  · exact .inl (.inl (s _ _ h))
  · exact .inl (.inr ⟨od, s _ _ h⟩)
  · exact .inr h
theorem step_rg : ∀ j : Fin 23, Builtin.Range.small 1 ((j.val : Int) - 1) 2 = true ∧ Builtin.Range.rangeSize 1 ((j.val : Int) - 1) 2 = ((Builtin.Range.rangeSize 1 ((j.val : Int) - 1) 2).toNat : Int) ∧ (Builtin.Range.rangeSize 1 ((j.val : Int) - 1) 2).toNat ≤ 10 ∧
    ∀ i : Fin 10, i.val < (Builtin.Range.rangeSize 1 ((j.val : Int) - 1) 2).toNat → 1 + (i.val : Int) * 2 < (j.val : Int) - 1 := by decide +kernel
abbrev nLMakes : List Str := ["_law_script", "_law_found", "_law_make", "_law_k", "_law_cell"]
theorem scLMakes : FnScope nLMakes ["_law_script"] (defScope sLMakes) := ⟨rfl, rfl, rfl, by decide +kernel, rfl, by decide +kernel, by decide +kernel⟩
def spLMakes (K : PySem.W.Frag) : Sp := fun vs H Q _ => ∃ (p : Addr) (ns : List Int), vs = [.ref p] ∧ SqL K H p (ns.map V.int) ∧ ns.length ≤ 63 ∧ ∀ (a : Addr) (ms : Makes) (H' : Hp), Same H H' → H a = none → MakesAt H' a ms → MakesOk ms → (∀ q ∈ ms, q.1 < 10 ^ 50) → (∀ q ∈ ms, ∀ r ∈ q.2, r.1 ∈ names9) → Q (.ref a) H'
theorem ok_lmakes {f C fdo fdr ft : Addr} {fd ddo ddr dt : FuncData} (F : Fun K "_law_makes" "_law_makes" sLMakes f fd) (T : Txt K mg C) (DO : DefAt K mg "_law_document" sDocument ["_law_cell", "_law_more"] fdo ddo)
    (D : DefAt K mg "_law_draws" sDraws ["_law_cell", "_law_many", "_law_base", "_law_free"] fdr ddr) (X : DefAt K mg "_law_text" sText ["_law_cell"] ft dt) : FnOk P w K mg base CX0 4 f fd ["_law_script"] (spLMakes K) := by
  have GD : FnOk P w K mg base CX0 3 fdo ddo ["_law_cell", "_law_more"] spDocument := ok_document DO.fn T D X
  refine F.ok scLMakes (fun vs H Q E h => ?_) (fun cdv A outer s H vs Q E hr h => ?_)
  · obtain ⟨_, _, rfl, _⟩ := h
    rfl
  · obtain ⟨p, ns, rfl, hS, hl, k⟩ := h
    refine ⟨_, pss_cons (ps_set (i := 1) scLMakes.nd rfl (Or.inl rfl) (pe_lst pa_nil))
      (pss_cons (ps_set (i := 2) scLMakes.nd rfl (Or.inl rfl) (pe_un un_neg pe_int))
      (pss_cons (ps_for PassesOwn.never rfl (pi_range3 rfl T.range (pa_cons pe_int (pa_cons (pe_callB (call_min2 rfl) (by rfl) T.min (by decide +kernel) (pa_cons pe_int (pa_cons (pe_op op_sub (pe_callB call_len_seq (by rfl) T.len PySem.boot_len (pa_cons (pv 0) pa_nil)) pe_int) pa_nil))) (pa_cons pe_int pa_nil)))) (pg_name (i := 3) scLMakes.nd rfl (Or.inl rfl))
        (pss_cons (ps_set (i := 4) scLMakes.nd rfl (Or.inl rfl) (pe_ix ix_list (pv 0) (pv 3) (fun _ _ => rfl)))
        (pss_cons (ps_set (i := 2) scLMakes.nd rfl (Or.inl rfl) (pe_op op_add (pe_op op_add (pv 2) pe_int)
            (pe_ix ix_list (pe_lst (pa_cons (pe_op op_mod (pe_op op_fdiv (pv 4) pe_int) pe_int) (pa_cons (pe_op op_mod (pe_op op_fdiv (pv 4) pe_int) (pe_op op_pow pe_int pe_int)) pa_nil)))
              (pe_callTy (T := "int") call_int1 (by rfl) T.int (by decide +kernel) (pa_cons (pe_cmpR op_eq (pe_op op_mod (pv 4) pe_int) pe_int (nomark _)) pa_nil)) (fun _ _ => rfl))))
        (pss_one (ps_expr (pe_bm PySem.F.plainAttrs_list PySem.F.slot_list_append PySem.F.type_list_append mt_append (pv 1)
            (pa_cons (pe_tup (pa_cons (pv 2) (pa_cons (pe_call GD hr rfl DO.at_ DO.fn.kp DO.bd .nil pass0 (pa_cons (pe_op op_fdiv (pv 4) pe_int) (pa_cons (pe_ix ix_list (pv 0) (pe_op op_add (pv 3) pe_int) (fun _ _ => rfl)) pa_nil))) pa_nil))) pa_nil)))))))
      (pss_one (ps_ret (pv 1))))), ?_⟩
    refine ⟨Nat.zero_le _, fun l hl0 => ?_⟩
    have hS1 : SqL K (upd H l (.lst [])) p (ns.map V.int) := sql_same hS (same_new hl0)
    obtain ⟨j, hj⟩ : ∃ j : Int, j = (if (((ns.map V.int).length : Nat) : Int) - 1 < 21 then (((ns.map V.int).length : Nat) : Int) - 1 else 21) := ⟨_, rfl⟩
    have hjl : -1 ≤ j ∧ j ≤ 21 ∧ j ≤ (ns.length : Int) - 1 := by
      rw [List.length_map] at hj
      rw [hj]
      split <;> omega
    have rg := step_rg ⟨(j + 1).toNat, by omega⟩
    have ej : (((j + 1).toNat : Nat) : Int) - 1 = j := by omega
    dsimp only at rg
    rw [ej] at rg
    obtain ⟨g1, g2, g3, g4⟩ := rg
    obtain ⟨n, hn⟩ : ∃ n, n = (Builtin.Range.rangeSize 1 j 2).toNat := ⟨_, rfl⟩
    rw [← hn] at g2 g3 g4
    clear hn
    have hlD : upd H l (.lst []) l ≠ none := by rw [upd_same]; intro z; cases z
    refine ⟨_, rfl, ?_⟩
    refine ⟨_, rfl, p, _, rfl, .inl hS1, _, _, rfl, rfl, _, _, rfl, ?_⟩
    rw [← hj]
    refine ⟨_, _, _, n, rfl, ⟨by decide, by decide, g1, g2⟩, for_it walk_rangeC
      (fun i σ H2 => ∃ (last : Int) (v3 v4 : Option V) (xs : List V) (ms : Makes), σ = [some (.ref p), some (.ref l), some (.int last), v3, v4] ∧ Same H H2 ∧ H2 l = some (.lst xs) ∧ Paired (MD (fr H2 (upd H l (.lst [])))) xs ms ∧ ms.length = i ∧ (-1 ≤ last ∧ last ≤ -1 + (i : Int) * 10 ^ 40) ∧
        (ms.Pairwise fun p q => p.1 < q.1) ∧ (∀ q ∈ ms, 0 ≤ q.1 ∧ q.1 ≤ last) ∧ ∀ q ∈ ms, DocOk q.2 ∧ ∀ r ∈ q.2, r.1 ∈ names9)
      ⟨-1, none, none, [], [], rfl, same_new hl0, upd_same, .nil, rfl, ⟨by decide, by decide⟩, List.Pairwise.nil, fun q hq => absurd hq (by simp), fun q hq => absurd hq (by simp)⟩ (fun _ _ _ _ _ => trivial) ?_ ?_⟩
    · rintro i x σ H3 H2 hi ⟨last, v3, v4, xs, ms, rfl, sm, hL, pm, hml, hlast, hrise, hpos, hdoc⟩ ⟨rfl, rfl⟩
      have hS2 : SqL K H2 p (ns.map V.int) := sql_same hS sm
      have hk := g4 ⟨i, by omega⟩ hi
      dsimp only at hk
      have hk1 : (1 + (i : Int) * 2).toNat < ns.length := by omega
      have hk2 : (1 + (i : Int) * 2 + 1).toNat < ns.length := by omega
      have e1 : atI (ns.map V.int) (1 + (i : Int) * 2) = some (V.int (ns[(1 + (i : Int) * 2).toNat]'hk1)) := by
        rw [at_nn (by omega) (by rw [List.length_map]; exact hk1), List.getElem_map]
      have e2 : atI (ns.map V.int) (1 + (i : Int) * 2 + 1) = some (V.int (ns[(1 + (i : Int) * 2 + 1).toNat]'hk2)) := by
        rw [at_nn (by omega) (by rw [List.length_map]; exact hk2), List.getElem_map]
      obtain ⟨c, hc⟩ : ∃ c, c = ns[(1 + (i : Int) * 2).toNat]'hk1 := ⟨_, rfl⟩
      obtain ⟨more, hmore⟩ : ∃ c, c = ns[(1 + (i : Int) * 2 + 1).toNat]'hk2 := ⟨_, rfl⟩
      rw [← hc] at e1
      rw [← hmore] at e2
      clear hc hmore
      refine ⟨_, rfl, _, rfl, p, _, _, _, rfl, rfl, hS2, e1, ?_⟩
      refine ⟨_, rfl, _, _, rfl, rfl, ?_⟩
      refine ⟨_, rfl, _, _, rfl, rfl, ⟨by decide, by decide⟩, _, _, rfl, rfl, (by show (0 : Int) < 9; decide), _, rfl, _, _, rfl, rfl, ⟨by decide, by decide⟩, _, _, rfl, rfl, ⟨by decide, by decide, by decide⟩, _, _, rfl, rfl, (by show (0 : Int) < 10 ^ 40; decide),
        (by show 2 ≤ sizeLine; decide), fun lq hlq => ?_⟩
      refine ⟨_, rfl, _, _, rfl, rfl, (by show (0 : Int) < 4; decide), rfl, .inr ⟨_, rfl, ?_⟩⟩
      have q1 := same_new (o := HO.lst [V.int (c / 4 % 9), V.int (c / 4 % (10 ^ (40 : Int).toNat))]) hlq
      obtain ⟨st, st0, est⟩ : ∃ st : Int, (0 ≤ st ∧ st < 10 ^ 40) ∧ atI [V.int (c / 4 % 9), V.int (c / 4 % (10 ^ (40 : Int).toNat))] (if (decide (V.int (c % 4) = V.int 3)) = true then 1 else 0) = some (V.int st) := by
        by_cases b : V.int (c % 4) = V.int 3
        · rw [decide_eq_true b, if_pos rfl]
          exact ⟨_, ⟨Int.emod_nonneg _ (by decide), Int.emod_lt_of_pos _ (by decide)⟩, rfl⟩
        · rw [decide_eq_false b, if_neg Bool.false_ne_true]
          exact ⟨_, ⟨Int.emod_nonneg _ (by decide), Int.lt_trans (Int.emod_lt_of_pos _ (show (0 : Int) < 9 by decide)) (by decide)⟩, rfl⟩
      refine ⟨lq, _, _, _, rfl, rfl, SqL.of upd_same, est, _, _, rfl, rfl, ?_⟩
      have sm1 := sm.trans q1
      have hL1 := q1 _ _ hL
      have hS3 : SqL K (upd H2 lq (.lst [V.int (c / 4 % 9), V.int (c / 4 % (10 ^ (40 : Int).toNat))])) p (ns.map V.int) := sql_same hS sm1
      refine ⟨_, rfl, .inl ⟨rfl, _, SqL.of hL1⟩, _, rfl, ?_⟩
      refine ⟨_, rfl, _, _, rfl, rfl, ⟨by decide, by decide⟩, _, rfl, _, rfl, _, _, rfl, rfl, p, _, _, _, rfl, rfl, hS3, e2, ?_⟩
      refine ⟨_, _, rfl, fun da doc H5 s5 hda hdoc5 dk hn9 => ⟨(by show 2 ≤ sizeLine; decide), fun t ht => ?_⟩⟩
      have q2 := same_new (o := HO.tup [V.int (last + 1 + st), V.ref da]) ht
      have hL5 := q2 _ _ (s5 _ _ hL1)
      have hl2 : -1 ≤ last + 1 + st ∧ last + 1 + st ≤ -1 + ((i + 1 : Nat) : Int) * 10 ^ 40 := by
        have h1 := hlast.2
        have h2 := st0.2
        have h3 := hlast.1
        have e : ((i + 1 : Nat) : Int) * 10 ^ 40 = (i : Int) * 10 ^ 40 + 10 ^ 40 := by rw [Int.natCast_add, Int.add_mul]; rfl
        rw [e]
        constructor <;> omega
      have t0 : upd H l (.lst []) t = none := dom_free (sm1.trans s5) (s5 _ _ hL1) ht
      refine ⟨l, _, _, rfl, rfl, hL5, size_lt (by rw [pd_len pm]; omega), ?_⟩
      refine ⟨last + 1 + st, some (.int (1 + (i : Int) * 2)), some (.int c), xs ++ [.ref t], ms ++ [(last + 1 + st, doc)], rfl, same_at ((sm1.trans s5).trans q2) hl0, upd_same, ?_, by rw [List.length_append, hml]; rfl, hl2, ?_, fun q hq => ?_, fun q hq => ?_⟩
      · rw [fr_upd_old hlD]
        have sA : Same H2 (upd H5 t (.tup [V.int (last + 1 + st), V.ref da])) := (q1.trans s5).trans q2
        have sF : Same (fr H5 (upd H2 lq (.lst [V.int (c / 4 % 9), V.int (c / 4 % (10 ^ (40 : Int).toNat))]))) (fr (upd H5 t (.tup [V.int (last + 1 + st), V.ref da])) (upd H l (.lst []))) := fun b u hb => by
          obtain ⟨z1, z2⟩ := fr_at hb
          exact fr_in (q2 _ _ z1) (dom_free sm1 hL1 z2)
        refine pd_snoc ⟨t, da, rfl, fr_in upd_same t0, hdoc5.mono (sTS sF) (sLS sF)⟩ (Paired.mapP pm fun _ _ z => z.mono (sTS (fr_same sA)) (sLS (fr_same sA)))
      · refine List.pairwise_append.mpr ⟨hrise, List.pairwise_singleton _ _, fun a ha b hb => ?_⟩
        rw [List.mem_singleton.mp hb]
        have := (hpos a ha).2
        show a.1 < last + 1 + st
        omega
      · rcases List.mem_append.mp hq with z | z
        · have := hpos q z
          constructor <;> omega
        · rw [List.mem_singleton.mp z]
          show 0 ≤ last + 1 + st ∧ last + 1 + st ≤ last + 1 + st
          omega
      · rcases List.mem_append.mp hq with z | z
        · exact hdoc q z
        · rw [List.mem_singleton.mp z]; exact ⟨dk, hn9⟩
    · rintro σ H2 ⟨last, v3, v4, xs, ms, rfl, sm, hL, pm, hml, hlast, hrise, hpos, hdoc⟩
      refine ⟨_, rfl, k l ms H2 sm hl0 ⟨xs, hL, Paired.mapP pm fun _ _ z => z.mono (sTS fr_sub) (sLS fr_sub)⟩ ⟨hrise, fun q hq => (hpos q hq).1, fun q hq => (hdoc q hq).1, by omega⟩ (fun q hq => ?_) fun q hq => (hdoc q hq).2⟩
      have h1 := (hpos q hq).2
      have h2 := hlast.2
      have h3 : (n : Int) ≤ 10 := by omega
      have h4 : (n : Int) * 10 ^ 40 ≤ 10 * 10 ^ 40 := Int.mul_le_mul_of_nonneg_right h3 (by decide)
      have h5 : (10 : Int) * 10 ^ 40 < 10 ^ 50 := by decide
      have h6 : (-1 : Int) + (n : Int) * 10 ^ 40 < 10 ^ 50 := by omega
      omega
end
end KP
namespace KP
open PySem L2
section
variable {P : Program} {w : World} {K : PySem.W.Frag} {mg : Str → Option Value} {base : Heap}
/-! _law_spoil -/
theorem sz3_evs {m : Int} {f : Str} : ∀ (l : List (Int × Str)) (tab : Tab) (B : Nat), SZ3 tab B → SZ3 (l.foldl (evL m f) tab) (B + l.length)
  | [], _, _, h => h
  | (a, w) :: l, tab, B, h => by
    have := sz3_evs (m := m) (f := f) l _ _ (evL_sz (m := m) (a := a) (f := f) (w := w) h)
    refine this.mono ?_
    rw [List.length_cons]
    omega
theorem sz3_doc {m : Int} : ∀ (d : Doc) (tab : Tab) (B : Nat), (∀ ft ∈ d, ft.2.cps.size ≤ 1000) → SZ3 tab B → SZ3 (d.foldl (docL m) tab) (B + d.length * 1002)
  | [], _, _, _, h => h.mono (by simp)
  | ft :: d, tab, B, hd, h => by
    have h1 : SZ3 (docL m tab ft) (B + (enumI (wordsL ft.2)).length) := sz3_evs _ _ _ h
    have h2 := hd ft List.mem_cons_self
    have h3 := wordsL_len ft.2
    rw [enumI_len] at h1
    have := sz3_doc (m := m) d _ _ (fun q hq => hd q (List.mem_cons_of_mem _ hq)) (h1.mono (show _ ≤ B + 1002 by omega))
    refine this.mono ?_
    rw [List.length_cons]
    omega
theorem sz3_ms : ∀ (ms : Makes) (tab : Tab) (B : Nat), (∀ p ∈ ms, DocOk p.2) → SZ3 tab B → SZ3 (ms.foldl tabL tab) (B + ms.length * 20040)
  | [], _, _, _, h => h.mono (by simp)
  | p :: ms, tab, B, hd, h => by
    have dk := hd p List.mem_cons_self
    have h1 : SZ3 (tabL tab p) (B + p.2.length * 1002) := sz3_doc p.2 tab B (fun ft hft => (dk.tx ft hft).1) h
    have h2 := dk.len
    have := sz3_ms ms _ _ (fun q hq => hd q (List.mem_cons_of_mem _ hq)) (h1.mono (show _ ≤ B + 20040 by omega))
    refine this.mono ?_
    rw [List.length_cons]
    omega
theorem sz3_of {ms : Makes} (mo : MakesOk ms) : SZ3 (ms.foldl tabL []) 900000 := (sz3_ms ms [] 0 mo.docs SZ3.nil).mono (by have := mo.len; omega)
/-- lists grow by at most i -/
def LG (H H' : Hp) (i : Nat) : Prop := ∀ (l : Addr) (xs : List V), H l = some (.lst xs) → ∃ xs', H' l = some (.lst xs') ∧ xs'.length ≤ xs.length + i
abbrev nLSpoil : List Str := ["_law_piece", "_law_makes_here", "_law_field", "_law_word", "_law_told", "_law_make", "_law_places"]
theorem scLSpoil : FnScope nLSpoil ["_law_piece", "_law_makes_here"] (defScope sLSpoil) := ⟨rfl, rfl, rfl, by decide +kernel, rfl, by decide +kernel, by decide +kernel⟩
def spLSpoil (C : Addr) : Sp := fun vs H Q _ => ∃ (x a : Addr) (ms : Makes), vs = [.ref x, .ref a] ∧ PieceAt H C x ms ∧ MakesOk ms ∧ ∀ H', Same H H' → Q .non H'
theorem ok_lspoil {f C fmk ffi fwd fpo fle fcp : Addr} {fd dmk dfi dwd dpo dle dcp : FuncData} (F : Fun K "_law_spoil" "_law_spoil" sLSpoil f fd) (T : Txt K mg C) (M : Ms K mg C fmk ffi fwd fpo fle fcp dmk dfi dwd dpo dle dcp) :
    FnOk P w K mg base CX0 3 f fd ["_law_piece", "_law_makes_here"] (spLSpoil C) := by
  have Gmk : FnOk P w K mg base CX0 1 fmk dmk ["self"] (spMakes C) := ok_makes M.mkF T
  have Gfi : FnOk P w K mg base CX0 1 ffi dfi ["self"] (spFields C) := ok_fields M.fiF T
  have Gwd : FnOk P w K mg base CX0 1 fwd dwd ["self", "field"] (spWords C) := ok_words M.wdF T
  have Gpo : FnOk P w K mg base CX0 2 fpo dpo ["self", "field", "word"] (spPostings C) := ok_postings M.poF T M.copied
  refine F.ok scLSpoil (fun vs H Q E h => ?_) (fun cdv A outer s H vs Q E hr h => ?_)
  · obtain ⟨_, _, _, rfl, _⟩ := h
    rfl
  · obtain ⟨x, a, ms, rfl, pc, mo, k⟩ := h
    have hr1 : Room 1 _ := hr.mono (by decide)
    have hr2 : Room 2 _ := hr.mono (by decide)
    refine ⟨_, pss_cons (ps_expr (pe_bm PySem.F.plainAttrs_list PySem.F.slot_list_append PySem.F.type_list_append mt_append (pe_meth0 (pv 0) T.cl M.mkM Gmk hr1 M.mkB .nil pass0) (pa_cons pe_int pa_nil)))
      (pss_cons (ps_expr (pe_bm PySem.F.plainAttrs_list PySem.F.slot_list_append PySem.F.type_list_append mt_append (pe_meth0 (pv 0) T.cl M.fiM Gfi hr1 M.fiB .nil pass0) (pa_cons pe_str pa_nil)))
      (pss_one (ps_for PassesOwn.never rfl (pi_list (pe_meth0 (pv 0) T.cl M.fiM Gfi hr1 M.fiB .nil pass0)) (pg_name (i := 2) scLSpoil.nd rfl (Or.inl rfl))
        (pss_cons (ps_expr (pe_bm PySem.F.plainAttrs_list PySem.F.slot_list_append PySem.F.type_list_append mt_append (pe_meth (pv 0) T.cl M.wdM Gwd hr1 M.wdB .nil pass0 (pa_cons (pv 2) pa_nil)) (pa_cons pe_str pa_nil)))
        (pss_one (ps_for PassesOwn.never rfl (pi_list (pe_meth (pv 0) T.cl M.wdM Gwd hr1 M.wdB .nil pass0 (pa_cons (pv 2) pa_nil))) (pg_name (i := 3) scLSpoil.nd rfl (Or.inl rfl))
          (pss_cons (ps_set (i := 4) scLSpoil.nd rfl (Or.inl rfl) (pe_meth (pv 0) T.cl M.poM Gpo hr2 M.poB .nil pass0 (pa_cons (pv 2) (pa_cons (pv 3) pa_nil))))
          (pss_cons (ps_for PassesOwn.never rfl (pi_list (pv 4)) (pg_tup rfl (pgs_cons (pg_name (i := 5) scLSpoil.nd rfl (Or.inl rfl)) (pgs_cons (pg_name (i := 6) scLSpoil.nd rfl (Or.inl rfl)) pgs_nil)))
            (pss_one (ps_expr (pe_bm PySem.F.plainAttrs_list PySem.F.slot_list_append PySem.F.type_list_append mt_append (pv 6) (pa_cons pe_int pa_nil)))))
          (pss_one (ps_expr (pe_bm0 PySem.F.plainAttrs_list PySem.F.slot_list_clear PySem.F.type_list_clear mt_clear (pv 4)))))))))))), ?_⟩
    obtain ⟨dx, hl, ld, tb, hx, pcr⟩ := pc
    have pc : PieceAt H C x ms := ⟨dx, hl, ld, tb, hx, pcr⟩
    clear pcr
    have hz := sz_tabOf mo
    have z3 := sz3_of mo
    have hR := mo.riseB
    rw [← tabOf_eq hR] at z3
    refine ⟨_, rfl, x, dx, _, rfl, hx, fl_makes hl ld tb, x, ms, rfl, pc, fun l1 hl1 => ?_⟩
    have q1 := same_new (o := HO.lst (ms.map fun p => V.int p.1)) hl1
    refine ⟨.inl ⟨rfl, _, SqL.of upd_same⟩, l1, _, _, rfl, rfl, upd_same, size_lt (by rw [List.length_map]; have := mo.len; omega), ?_⟩
    have s1 := same_at (o := HO.lst ((ms.map fun p => V.int p.1) ++ [V.int 7])) q1 hl1
    obtain ⟨H1, eH1⟩ : ∃ H1, H1 = upd (upd H l1 (.lst (ms.map fun p => V.int p.1))) l1 (.lst ((ms.map fun p => V.int p.1) ++ [V.int 7])) := ⟨_, rfl⟩
    rw [← eH1] at s1
    show tSeq _ _ _ _ (upd (upd H l1 (.lst (ms.map fun p => V.int p.1))) l1 (.lst ((ms.map fun p => V.int p.1) ++ [V.int 7])))
    rw [← eH1]
    clear eH1 q1 hl1
    have fsz : (sortS ((tabOf ms).map (·.1))).length ≤ 900000 := by rw [(sortS_perm _).length_eq, List.length_map]; exact hz.1
    refine ⟨_, rfl, x, dx, _, rfl, s1 _ _ hx, fl_fields hl ld tb, x, ms, rfl, pc.mono s1, fun l2 hl2 => ?_⟩
    have q2 := same_new (o := HO.lst ((sortS ((tabOf ms).map (·.1))).map V.str)) hl2
    refine ⟨.inl ⟨rfl, _, SqL.of upd_same⟩, l2, _, _, rfl, rfl, upd_same, size_lt (by rw [List.length_map]; omega), ?_⟩
    have s2 : Same H _ := s1.trans (same_at (o := HO.lst ((sortS ((tabOf ms).map (·.1))).map V.str ++ [V.str ("odd" : Str)])) q2 hl2)
    refine ⟨_, rfl, x, dx, _, rfl, s2 _ _ hx, fl_fields hl ld tb, x, ms, rfl, pc.mono s2, fun l3 hl3 => ?_⟩
    obtain ⟨Hg, eHg⟩ : ∃ Hg, Hg = upd (upd (upd H1 l2 (.lst ((sortS ((tabOf ms).map (·.1))).map V.str))) l2 (.lst ((sortS ((tabOf ms).map (·.1))).map V.str ++ [V.str ("odd" : Str)]))) l3 (.lst ((sortS ((tabOf ms).map (·.1))).map V.str)) := ⟨_, rfl⟩
    have sg : Same H Hg := by rw [eHg]; exact s2.trans (same_new hl3)
    have hgg : Hg l3 = some (.lst ((sortS ((tabOf ms).map (·.1))).map V.str)) := by rw [eHg, upd_same]
    rw [← eHg]
    clear eHg q2 s2 s1 hl2 hl3
    have pcg := pc.mono sg
    have hxg := sg _ _ hx
    refine ⟨l3, rfl, ⟨_, SqL.of hgg⟩, for_it walk_list
      (fun i σ H2 => ∃ (v2 v3 v4 v5 v6 : Option V), σ = [some (.ref x), some (.ref a), v2, v3, v4, v5, v6] ∧ Same Hg H2)
      ⟨none, none, none, none, none, rfl, Same.refl Hg⟩ (fun i σ H2 _ ⟨_, _, _, _, _, _, sm⟩ => SqL.of (sm _ _ hgg)) ?_ ?_⟩
    · rintro i y σ H2 H3 hi ⟨v2, v3, v4, v5, v6, rfl, sm⟩ ⟨rfl, hy⟩
      obtain ⟨f, _, rfl⟩ := List.mem_map.mp (List.mem_of_getElem? hy)
      have wsz : (sortS (((look (tabOf ms) f).getD []).map (·.1))).length ≤ 900000 := by rw [(sortS_perm _).length_eq, List.length_map]; exact (hz.2 f).1
      refine ⟨_, rfl, x, dx, _, rfl, sm _ _ hxg, fl_words hl ld tb, _, rfl, x, ms, f, rfl, pcg.mono sm, fun l1 H5 s5 hl1 hL1 => ?_⟩
      refine ⟨.inl ⟨rfl, _, SqL.of hL1⟩, l1, _, _, rfl, rfl, hL1, size_lt (by rw [List.length_map]; omega), ?_⟩
      have sm5 := sm.trans (same_at (o := HO.lst ((sortS (((look (tabOf ms) f).getD []).map (·.1))).map V.str ++ [V.str ("odd" : Str)])) s5 hl1)
      refine ⟨_, rfl, x, dx, _, rfl, sm5 _ _ hxg, fl_words hl ld tb, _, rfl, x, ms, f, rfl, pcg.mono sm5, fun l2 H6 s6 hl2 hL2 => ?_⟩
      have sm6 := sm5.trans s6
      clear sm sm5 s5 s6 hL1 hl1 hl2
      refine ⟨l2, rfl, ⟨_, SqL.of hL2⟩, for_it walk_list
        (fun i σ H2 => ∃ (v3 v4 v5 v6 : Option V), σ = [some (.ref x), some (.ref a), some (.str f), v3, v4, v5, v6] ∧ Same H6 H2)
        ⟨v3, v4, v5, v6, rfl, Same.refl H6⟩ (fun i σ H2 _ ⟨_, _, _, _, _, sm⟩ => SqL.of (sm _ _ hL2)) ?_ ?_⟩
      · clear v3 v4 v5 v6
        rintro j y σ H7 H8 hj ⟨v3, v4, v5, v6, rfl, sm⟩ ⟨rfl, hy⟩
        obtain ⟨w, _, rfl⟩ := List.mem_map.mp (List.mem_of_getElem? hy)
        have smg := sm6.trans sm
        refine ⟨_, rfl, x, dx, _, rfl, smg _ _ hxg, fl_postings hl ld tb, _, rfl, _, rfl, x, ms, f, w, rfl, pcg.mono smg, mo, fun l4 ys H9 s9 hl4 hL4 pry => ?_⟩
        have rise := rowsAt_rise hR f w
        have ndr : ((rowsAt (tabOf ms) f w).map (·.1)).Nodup := (List.pairwise_map.mpr rise).imp fun h => Int.ne_of_lt h
        have rsz : (rowsAt (tabOf ms) f w).length ≤ 900000 := (hz.2 f).2 w
        refine ⟨_, rfl, l4, rfl, ⟨ys, SqL.of hL4⟩, for_it walk_list
          (fun i σ H2 => ∃ (v5 v6 : Option V), σ = [some (.ref x), some (.ref a), some (.str f), some (.str w), some (.ref l4), v5, v6] ∧ Same H8 H2 ∧ H2 l4 = some (.lst ys) ∧ TS H9 H2 ∧ LG H9 H2 i)
          ⟨v5, v6, rfl, s9, hL4, fun p ys h => h, fun l xs h => ⟨xs, h, Nat.le_refl _⟩⟩ (fun i σ H2 _ ⟨_, _, _, _, h, _⟩ => SqL.of h) ?_ ?_⟩
        · rintro n y σ H10 H11 hn ⟨v5, v6, rfl, s10, hL10, ts10, lg⟩ ⟨rfl, hy⟩
          obtain ⟨⟨m, ps⟩, hr0, t, l, rfl, ht, hl9⟩ := pd_get pry hy
          dsimp only at ht hl9
          have hnr : n < (rowsAt (tabOf ms) f w).length := (List.getElem?_eq_some_iff.mp hr0).1
          have pl9 : ps.length ≤ 900000 := by
            have q := z3.2 f w m
            rw [look_of_mem ndr (List.mem_of_getElem? hr0)] at q
            exact q
          obtain ⟨ht9, ht8⟩ := fr_at ht
          obtain ⟨hl9', hl8⟩ := fr_at hl9
          have nl : l ≠ l4 := fun z => by rw [z, upd_same] at hl8; cases hl8
          have hl80 : H8 l = none := by rw [upd_ne nl] at hl8; exact hl8
          obtain ⟨xs', hx', hxl⟩ := lg l _ hl9'
          rw [List.length_map] at hxl
          refine ⟨t, _, rfl, SqT.of (ts10 _ _ ht9), rfl, _, _, rfl, _, _, rfl, rfl, ?_⟩
          refine ⟨_, rfl, .inl ⟨rfl, _, SqL.of hx'⟩, l, xs', _, rfl, rfl, hx', (by show xs'.length < 2 ^ 24; omega), ?_⟩
          refine ⟨some (.int m), some (.ref l), rfl, same_at s10 hl80, upd_oth hL10 (Ne.symm nl), fun p us h => ts_lst hx' _ _ (ts10 _ _ h), fun b us h => ?_⟩
          by_cases e : b = l
          · rw [e] at h ⊢
            obtain ⟨us', hu', hul⟩ := lg l _ h
            rw [hx'] at hu'
            cases hu'
            exact ⟨_, upd_same, by rw [List.length_append]; show _ + 1 ≤ _; omega⟩
          · obtain ⟨us', hu', hul⟩ := lg b _ h
            exact ⟨us', upd_oth hu' e, by omega⟩
        · rintro σ H10 ⟨v5, v6, rfl, s10, hL10, ts10, lg⟩
          refine ⟨_, rfl, .inl ⟨rfl, _, SqL.of hL10⟩, l4, ys, rfl, rfl, hL10, ?_⟩
          exact ⟨some (.str w), some (.ref l4), v5, v6, rfl, sm.trans (same_at s10 hl4)⟩
      · rintro σ H7 ⟨v3, v4, v5, v6, rfl, sm⟩
        exact ⟨some (.str f), v3, v4, v5, v6, rfl, sm6.trans sm⟩
    · rintro σ H5 ⟨v2, v3, v4, v5, v6, rfl, sm⟩
      exact k _ (sg.trans sm)
end
end KP
namespace KP
open PySem L2
section
variable {P : Program} {w : World} {K : PySem.W.Frag} {mg : Str → Option Value} {base : Heap}
/-! law -/
theorem evs_notin {m : Int} {f g : Str} (h : g ≠ f) : ∀ (l : List (Int × Str)) (tab : Tab), look (l.foldl (evL m f) tab) g = look tab g
  | [], _ => rfl
  | (a, w) :: l, tab => by
    have := evs_notin (m := m) h l (evL m f tab (a, w))
    rw [List.foldl_cons, this]
    unfold evL
    rw [look_alt, if_neg h]
theorem doc_notin {m : Int} {g : Str} : ∀ (d : Doc) (tab : Tab), (∀ r ∈ d, g ≠ r.1) → look (d.foldl (docL m) tab) g = look tab g
  | [], _, _ => rfl
  | r :: d, tab, h => by
    rw [List.foldl_cons, doc_notin d _ fun q hq => h q (List.mem_cons_of_mem _ hq)]
    exact evs_notin (h r List.mem_cons_self) _ _
theorem ms_notin {g : Str} : ∀ (ms : Makes) (tab : Tab), (∀ p ∈ ms, ∀ r ∈ p.2, g ≠ r.1) → look (ms.foldl tabL tab) g = look tab g
  | [], _, _ => rfl
  | p :: ms, tab, h => by
    rw [List.foldl_cons, ms_notin ms _ fun q hq => h q (List.mem_cons_of_mem _ hq)]
    exact doc_notin p.2 tab (h p List.mem_cons_self)
theorem odd_nine : ("odd" : Str) ∉ names9 := by decide +kernel
theorem odd_none {ms : Makes} (mo : MakesOk ms) (h : ∀ q ∈ ms, ∀ r ∈ q.2, r.1 ∈ names9) : look (tabOf ms) ("odd" : Str) = none := by
  rw [tabOf_eq mo.riseB, ms_notin ms [] fun p hp r hr e => odd_nine (by rw [e]; exact h p hp r hr)]
  rfl
theorem sortS_nil : sortS [] = [] := by
  have := (sortS_perm []).length_eq
  exact List.length_eq_zero_iff.mp this
/-- a make handed in: the pair and its list new, the texts as before -/
def MH (G H : Hp) (x : V) (md : Int × Doc) : Prop := ∃ (p a : Addr) (xs : List V), x = V.ref p ∧ G p = some (.tup [.int md.1, .ref a]) ∧ G a = some (.lst xs) ∧ Paired (FT H) xs md.2
abbrev nLaw : List Str := ["_law_script", "_law_makes_here", "_law_handed", "_law_make", "_law_document_here", "_law_piece"]
theorem scLaw : FnScope nLaw ["_law_script"] (defScope sLaw) := ⟨rfl, rfl, rfl, by decide +kernel, rfl, by decide +kernel, by decide +kernel⟩
def spLaw (K : PySem.W.Frag) : Sp := fun vs H Q _ => ∃ (p : Addr) (ns : List Int), vs = [.ref p] ∧ SqL K H p (ns.map V.int) ∧ ns.length ≤ 63 ∧ ∀ H', Q (.bl true) H'
theorem ok_law {f C fnm fld flw fwo flm fco fti fmk ffi fwd fpo fle fcp ftb fwl fte fma fdo fdr ftx fsp fin : Addr} {fd dnm dld dlw dwo dlm dco dti dmk dfi dwd dpo dle dcp dtb dwl dte dma ddo ddr dtx dsp din : FuncData}
    (F : Fun K "law" "law" sLaw f fd) (T : Txt K mg C) (Z : Defs K mg C fnm fld flw fwo flm fco fti dnm dld dlw dwo dlm dco dti) (M : Ms K mg C fmk ffi fwd fpo fle fcp dmk dfi dwd dpo dle dcp)
    (MkC : Mk K C fin) (IN : Fun K "__init__" "Piece.__init__" sInit fin din) (INB : Binds K din ["self", "makes"] [])
    (MA : DefAt K mg "_law_makes" sLMakes ["_law_script"] fma dma) (DO : DefAt K mg "_law_document" sDocument ["_law_cell", "_law_more"] fdo ddo) (D : DefAt K mg "_law_draws" sDraws ["_law_cell", "_law_many", "_law_base", "_law_free"] fdr ddr) (X : DefAt K mg "_law_text" sText ["_law_cell"] ftx dtx)
    (TE' : DefAt K mg "_law_tells" sLTells ["_law_thing", "_law_makes_here"] fte dte) (TB : DefAt K mg "_law_table" sLTable ["_law_makes_here"] ftb dtb) (LW : DefAt K mg "_law_words" sLWords ["_law_text_here"] fwl dwl) (SP : DefAt K mg "_law_spoil" sLSpoil ["_law_piece", "_law_makes_here"] fsp dsp) :
    FnOk P w K mg base CX0 6 f fd ["_law_script"] (spLaw K) := by
  have Gma : FnOk P w K mg base CX0 4 fma dma ["_law_script"] (spLMakes K) := ok_lmakes MA.fn T DO D X
  have Gin : FnOk P w K mg base CX0 4 fin din ["self", "makes"] (spInit C) := ok_init IN T Z
  have Gte : FnOk P w K mg base CX0 3 fte dte ["_law_thing", "_law_makes_here"] (spLTells C) := ok_ltells TE'.fn T M TB LW
  have Gsp : FnOk P w K mg base CX0 3 fsp dsp ["_law_piece", "_law_makes_here"] (spLSpoil C) := ok_lspoil SP.fn T M
  have Gmk : FnOk P w K mg base CX0 1 fmk dmk ["self"] (spMakes C) := ok_makes M.mkF T
  have Gwd : FnOk P w K mg base CX0 1 fwd dwd ["self", "field"] (spWords C) := ok_words M.wdF T
  have Gpo : FnOk P w K mg base CX0 2 fpo dpo ["self", "field", "word"] (spPostings C) := ok_postings M.poF T M.copied
  have Gle : FnOk P w K mg base CX0 1 fle dle ["self", "make", "field"] (spLength C) := ok_length M.leF T
  refine F.ok scLaw (fun vs H Q E h => ?_) (fun cdv A outer s H vs Q E hr h => ?_)
  · obtain ⟨_, _, rfl, _⟩ := h
    rfl
  · obtain ⟨p, ns, rfl, hS, hl, k⟩ := h
    have hu64 := hr.units
    have hr1 : Room 1 _ := hr.mono (by decide)
    have hr2 : Room 2 _ := hr.mono (by decide)
    have hr3 : Room 3 _ := hr.mono (by decide)
    have hr4 : Room 4 _ := hr.mono (by decide)
    refine ⟨_, pss_cons (ps_set (i := 1) scLaw.nd rfl (Or.inl rfl) (pe_call Gma hr4 rfl MA.at_ MA.fn.kp MA.bd .nil pass0 (pa_cons (pv 0) pa_nil)))
      (pss_cons (ps_setLc (i := 2) (own := [("_law_make", 3), ("_law_document_here", 4)]) (g := gTup K 2 (gCons (gName 3) (gCons (gName 4) gNil))) (tt := tYes) rfl scLaw.nd rfl rfl (sw_true rfl rfl rfl (by decide +kernel)) (pi_list (pv 1)) (blkOk_by (N := nLaw) (sc := defScope sLaw) (by decide +kernel))
          (fun _ _ _ _ _ => pg_tup rfl (pgs_cons (pg_name (i := 3) scLaw.nd rfl (Or.inl rfl)) (pgs_cons (pg_name (i := 4) scLaw.nd rfl (Or.inl rfl)) pgs_nil))) (fun _ _ _ _ _ => pts_nil)
          (fun _ _ _ _ _ => pe_tup (pa_cons (pv 3) (pa_cons (pe_callTy (T := "list") (call_listK (K := K)) (by rfl) T.list (by decide +kernel) (pa_cons (pv 4) pa_nil)) pa_nil))))
      (pss_cons (ps_set (i := 5) scLaw.nd rfl (Or.inl rfl) (pe_make MkC Gin hr rfl T.mgC INB .nil pass0 (pa_cons (pv 2) pa_nil)))
      (pss_cons (ps_if (PW.pt (pw_or (pt_cmpR (op_neP hu64) (pv 2) (pv 1) (nomark _)) (pw_or (pt_cmpR (op_neP hu64) (pe_meth0 (pv 5) T.cl M.mkM Gmk hr1 M.mkB .nil pass0)
            (pe_lc (own := [("_law_make", 3), ("_law_document_here", 4)]) (g := gTup K 2 (gCons (gName 3) (gCons (gName 4) gNil))) (tt := tYes) (te := tVar 3) rfl scLaw.nd (pi_list (pv 1)) (blkOk_by (N := nLaw) (sc := defScope sLaw) (by decide +kernel))
              (fun _ _ _ _ _ => pg_tup rfl (pgs_cons (pg_name (i := 3) scLaw.nd rfl (Or.inl rfl)) (pgs_cons (pg_name (i := 4) scLaw.nd rfl (Or.inl rfl)) pgs_nil))) (fun _ _ _ _ _ => pts_nil) (fun _ _ _ _ _ => pv 3)) (nomark _))
          (pw_or1 (pt_not (pt_val (pe_call Gte hr3 rfl TE'.at_ TE'.fn.kp TE'.bd .nil pass0 (pa_cons (pv 5) (pa_cons (pv 1) pa_nil))))))))) pss_never pss_nil)
      (pss_cons (ps_for PassesOwn.never rfl (pi_list (pv 2)) (pg_tup rfl (pgs_cons (pg_name (i := 3) scLaw.nd rfl (Or.inl rfl)) (pgs_cons (pg_name (i := 4) scLaw.nd rfl (Or.inl rfl)) pgs_nil)))
        (pss_one (ps_expr (pe_bm PySem.F.plainAttrs_list PySem.F.slot_list_append PySem.F.type_list_append mt_append (pv 4) (pa_cons (pe_tup (pa_cons pe_str (pa_cons pe_str pa_nil))) pa_nil)))))
      (pss_cons (ps_expr (pe_bm0 PySem.F.plainAttrs_list PySem.F.slot_list_clear PySem.F.type_list_clear mt_clear (pv 2)))
      (pss_cons (ps_expr (pe_call Gsp hr3 rfl SP.at_ SP.fn.kp SP.bd .nil pass0 (pa_cons (pv 5) (pa_cons (pv 1) pa_nil))))
      (pss_cons (ps_if (PW.pt (pw_or (pt_cmpR op_ne (pe_meth (pv 5) T.cl M.leM Gle hr1 M.leB .nil pass0 (pa_cons (pe_op op_pow pe_int pe_int) (pa_cons pe_str pa_nil))) pe_int (nomark _))
          (pw_or (pt_cmpR (op_neP hu64) (pe_meth (pv 5) T.cl M.poM Gpo hr2 M.poB .nil pass0 (pa_cons pe_str (pa_cons pe_str pa_nil))) (pe_lst pa_nil) (nomark _))
          (pw_or1 (pt_cmpR (op_neP hu64) (pe_meth (pv 5) T.cl M.wdM Gwd hr1 M.wdB .nil pass0 (pa_cons pe_str pa_nil)) (pe_lst pa_nil) (nomark _)))))) pss_never pss_nil)
      (pss_one (ps_ret (pe_and (pe_cmpR (op_eqP hu64) (pe_meth0 (pv 5) T.cl M.mkM Gmk hr1 M.mkB .nil pass0)
            (pe_lc (own := [("_law_make", 3), ("_law_document_here", 4)]) (g := gTup K 2 (gCons (gName 3) (gCons (gName 4) gNil))) (tt := tYes) (te := tVar 3) rfl scLaw.nd (pi_list (pv 1)) (blkOk_by (N := nLaw) (sc := defScope sLaw) (by decide +kernel))
              (fun _ _ _ _ _ => pg_tup rfl (pgs_cons (pg_name (i := 3) scLaw.nd rfl (Or.inl rfl)) (pgs_cons (pg_name (i := 4) scLaw.nd rfl (Or.inl rfl)) pgs_nil))) (fun _ _ _ _ _ => pts_nil) (fun _ _ _ _ _ => pv 3)) (nomark _))
          (pe_one (pe_call Gte hr3 rfl TE'.at_ TE'.fn.kp TE'.bd .nil pass0 (pa_cons (pv 5) (pa_cons (pv 1) pa_nil)))))))))))))), ?_⟩
    refine ⟨_, rfl, p, ns, rfl, hS, hl, fun a ms H1 s1 ha mk mo hb hn9 => ?_⟩
    obtain ⟨xs, hA, pd⟩ := mk
    -- the makes handed in
    refine ⟨_, rfl, a, rfl, ⟨xs, SqL.of hA⟩, fun D hD => lc_it walk_list (fun i H2 => Same H1 H2 ∧ ∃ ts, H2 D = some (.lst ts) ∧ Paired (MH (fr H2 (upd H1 D (.lst []))) H1) ts (ms.take i))
      ⟨same_new hD, [], upd_same, .nil⟩ (fun i H2 _ h => SqL.of (h.1 _ _ hA)) ?_ ?_⟩
    · rintro i y H2 H3 hi ⟨sm, ts, hT, pt⟩ ⟨rfl, hy⟩
      obtain ⟨⟨m, d⟩, hmd, q, da, rfl, hq, ds, hda, pdd⟩ := pd_get pd hy
      dsimp only at hq pdd
      refine ⟨q, _, rfl, SqT.of (sm _ _ hq), rfl, _, _, rfl, _, _, rfl, rfl, rfl, ?_⟩
      refine ⟨_, rfl, _, rfl, da, ds, rfl, .inl (SqL.of (sm _ _ hda)), fun c hc => ⟨(by show 2 ≤ sizeLine; decide), fun t ht => ?_⟩⟩
      have q1 := same_new (o := HO.lst ds) hc
      have q2 := same_new (o := HO.tup [V.int m, V.ref c]) ht
      have hTt := q2 _ _ (q1 _ _ hT)
      have c0 : upd H1 D (.lst []) c = none := dom_free sm hT hc
      have t0 : upd H1 D (.lst []) t = none := dom_free (sm.trans q1) (q1 _ _ hT) ht
      have hDD : upd H1 D (.lst []) D ≠ none := by rw [upd_same]; intro z; cases z
      refine ⟨ts, hTt, size_lt (by rw [pd_len pt, List.length_take]; have := mo.len; omega), same_at ((sm.trans q1).trans q2) hD, ts ++ [.ref t], upd_same, ?_⟩
      have et : ms.take (i + 1) = ms.take i ++ [(m, d)] := by rw [List.take_add_one, hmd]; rfl
      rw [et, fr_upd_old hDD]
      refine pd_snoc ⟨t, c, ds, rfl, fr_in upd_same t0, fr_in (q2 _ _ upd_same) c0, pdd⟩ (Paired.mapP pt fun _ _ z => ?_)
      obtain ⟨p', a', xs', z1, z2, z3, z4⟩ := z
      exact ⟨p', a', xs', z1, fr_same (q1.trans q2) _ _ z2, fr_same (q1.trans q2) _ _ z3, z4⟩
    rintro H0 ⟨s10, ts, hT0, pt⟩
    have eL : ms.take xs.length = ms := by rw [pd_len pd, List.take_length]
    rw [eL] at pt
    have mkD : MakesAt H0 D ms := ⟨ts, hT0, Paired.mapP pt fun _ _ z => by
      obtain ⟨p', a', xs', z1, z2, z3, z4⟩ := z
      exact ⟨p', a', z1, (fr_at z2).1, xs', (fr_at z3).1, Paired.mapP z4 fun _ _ y => y.mono (sTS s10)⟩⟩
    have mk0 : MakesAt H0 a ms := ⟨xs, s10 _ _ hA, Paired.mapP pd fun _ _ z => z.mono (sTS s10) (sLS s10)⟩
    -- the Piece
    refine ⟨_, rfl, fun x dx hx hdx hne => ⟨H0, x, dx, D, ms, rfl, hx, hdx, hne, rfl, mkD, mo, fun H4 s4 pc => ⟨rfl, ?_⟩⟩⟩
    obtain ⟨dx', hl', ld, tb, hx4, pcr⟩ := pc.mono fr_sub
    have pc4 : PieceAt H4 C x ms := ⟨dx', hl', ld, tb, hx4, pcr⟩
    clear pcr
    refine ⟨_, rfl, _, rfl, dMakes ms, dp_makes (mkD.mono (sTS s4) (sLS s4)), dp_makes (mk0.mono (sTS s4) (sLS s4)), (pl_makes _).1, (pl_makes _).2, _, rfl, iteF ?_⟩
    refine ⟨_, rfl, x, dx', _, rfl, hx4, fl_makes hl' ld tb, x, ms, rfl, pc4, fun l hl => ?_⟩
    have q5 := same_new (o := HO.lst (ms.map fun p => V.int p.1)) hl
    have s15 := (s10.trans s4).trans q5
    obtain ⟨HX, eHX⟩ : ∃ HX, HX = upd H4 l (.lst (ms.map fun p => V.int p.1)) := ⟨_, rfl⟩
    have hLX : HX l = some (.lst (ms.map fun p => V.int p.1)) := by rw [eHX, upd_same]
    rw [← eHX] at q5 s15 ⊢
    have hAX := s15 _ _ hA
    have pdX : Paired (MD HX) xs ms := Paired.mapP pd fun _ _ z => z.mono (sTS s15) (sLS s15)
    refine ⟨_, rfl, a, rfl, ⟨xs, SqL.of hAX⟩, fun D2 hD2 => lc_it walk_list (fun i H2 => Same HX H2 ∧ H2 D2 = some (.lst ((ms.take i).map fun p => V.int p.1)))
      ⟨same_new hD2, upd_same⟩ (fun i H2 _ h => SqL.of (h.1 _ _ hAX)) ?_ ?_⟩
    · rintro i y H2 H3 hi ⟨sm, hL⟩ ⟨rfl, hy⟩
      obtain ⟨md, hmd, p, da, rfl, hp, _⟩ := pd_get pdX hy
      refine ⟨p, _, rfl, SqT.of (sm _ _ hp), rfl, _, _, rfl, _, _, rfl, rfl, rfl, ?_⟩
      refine ⟨_, rfl, _, hL, size_lt (by rw [List.length_map, List.length_take]; have := mo.len; omega), same_at sm hD2, ?_⟩
      have e : ms.take (i + 1) = ms.take i ++ [md] := by rw [List.take_add_one, hmd]; rfl
      rw [upd_same, e, List.map_append]
      rfl
    rintro H6 ⟨s6, hL6⟩
    rw [eL] at hL6
    have eI : ∀ ms : Makes, (ms.map fun p => V.int p.1) = (ms.map (·.1)).map V.int := fun ms => by rw [List.map_map]; rfl
    refine ⟨dInts (ms.map (·.1)), dp_ints (by rw [← eI]; exact s6 _ _ hLX), dp_ints (by rw [← eI]; exact hL6), (pl_ints (n := 62) _).1, (pl_ints (n := 62) _).2, _, rfl, iteF ?_⟩
    have s46 := q5.trans s6
    clear eHX hLX hAX pdX hL6
    refine ⟨_, rfl, _, rfl, x, a, ms, rfl, pc4.mono s46, (mk0.mono (sTS s4) (sLS s4)).mono (sTS s46) (sLS s46), mo, fun H7 s7 => ⟨true, rfl, ?_⟩⟩
    refine iteF ?_
    -- the makes handed in change
    have s47 := s46.trans s7
    have s07 := s4.trans s47
    have s17 := s10.trans s07
    have hD0 : H0 D ≠ none := by rw [hT0]; intro z; cases z
    refine ⟨_, rfl, D, rfl, ⟨ts, SqL.of (s07 _ _ hT0)⟩, for_it walk_list
      (fun i σ H2 => ∃ (v3 v4 : Option V), σ = [some (.ref p), some (.ref a), some (.ref D), v3, v4, some (.ref x)] ∧ Same H1 H2 ∧ PieceAt (fr H2 H0) C x ms ∧ H2 D = some (.lst ts) ∧ TS H0 H2 ∧ LG H0 H2 i)
      ⟨_, _, rfl, s17, pc.mono (fr_same s47), s07 _ _ hT0, sTS s07, fun l xs h => ⟨xs, s07 _ _ h, Nat.le_refl _⟩⟩ (fun i σ H2 _ ⟨_, _, _, _, _, h, _⟩ => SqL.of h) ?_ ?_⟩
    · rintro i y σ H8 H9 hi ⟨v3, v4, rfl, s18, pc8, hT8, ts8, lg8⟩ ⟨rfl, hy⟩
      obtain ⟨⟨m, d⟩, hmd, q, da, ds, rfl, hq, hda, pdd⟩ := pd_get pt hy
      dsimp only at hq hda pdd
      obtain ⟨hq0, _⟩ := fr_at hq
      obtain ⟨hda0, hdaN⟩ := fr_at hda
      have hdaD : da ≠ D := fun z => by rw [z, upd_same] at hdaN; cases hdaN
      rw [upd_ne hdaD] at hdaN
      obtain ⟨us, hus, hul⟩ := lg8 da _ hda0
      have hds : ds.length ≤ 20 := by rw [pd_len pdd]; exact (mo.docs _ (List.mem_of_getElem? hmd)).len
      have hi40 : i < 40 := by have := (List.getElem?_eq_some_iff.mp hmd).1; have := mo.len; omega
      refine ⟨q, _, rfl, SqT.of (ts8 _ _ hq0), rfl, _, _, rfl, _, _, rfl, rfl, ?_⟩
      refine ⟨_, rfl, .inl ⟨rfl, _, SqL.of hus⟩, (by show 2 ≤ sizeLine; decide), fun t ht => ?_⟩
      have q9 := same_new (o := HO.tup [V.str ("zzz" : Str), V.str ("odd one" : Str)]) ht
      have hus9 := q9 _ _ hus
      refine ⟨da, us, _, rfl, rfl, hus9, size_lt (by omega), ?_⟩
      refine ⟨some (.int m), some (.ref da), rfl, same_at (s18.trans q9) hdaN, ?_, upd_oth (q9 _ _ hT8) (Ne.symm hdaD), fun p' us' h => ts_lst hus9 _ _ (q9 _ _ (ts8 _ _ h)), fun b us' h => ?_⟩
      · rw [fr_upd_old (by rw [hda0]; intro z; cases z)]
        exact pc8.mono (fr_same q9)
      · by_cases e : b = da
        · rw [e] at h ⊢
          obtain ⟨us2, hu2, hul2⟩ := lg8 da _ h
          rw [hus] at hu2
          cases hu2
          exact ⟨_, upd_same, by rw [List.length_append]; show _ + 1 ≤ _; omega⟩
        · obtain ⟨us2, hu2, hul2⟩ := lg8 b _ h
          exact ⟨us2, upd_oth (q9 _ _ hu2) e, by omega⟩
    rintro σ H8 ⟨v3, v4, rfl, s18, pc8, hT8, ts8, lg8⟩
    refine ⟨_, rfl, .inl ⟨rfl, _, SqL.of hT8⟩, D, ts, rfl, rfl, hT8, ?_⟩
    have s19 : Same H1 (upd H8 D (.lst [])) := same_at s18 hD
    have pc9 : PieceAt (upd H8 D (.lst [])) C x ms := by
      have : PieceAt (fr (upd H8 D (.lst [])) H0) C x ms := by rw [fr_upd_old hD0]; exact pc8
      exact this.mono fr_sub
    -- told lists change
    refine ⟨_, rfl, _, rfl, x, a, ms, rfl, pc9, mo, fun H10 sA => ?_⟩
    have s1A := s19.trans sA
    have pcA := pc9.mono sA
    clear pc9 pc8 ts8 lg8 hT8 s18 s19 sA hl' ld tb hx4 pc4 pc s07 s17 s47 s46
    obtain ⟨dx2, hl2, ld2, tb2, hxA, pcr⟩ := pcA
    have pcA : PieceAt H10 C x ms := ⟨dx2, hl2, ld2, tb2, hxA, pcr⟩
    clear pcr
    have eo := odd_none mo hn9
    have elen : (look (lensOf ms) ((10 : Int) ^ (50 : Int).toNat, ("a" : Str))).getD 0 = 0 := by
      rw [lens_notin ms fun q hq e => ?_]
      · rfl
      · have := hb q hq
        rw [e] at this
        exact absurd this (by decide)
    refine ⟨_, rfl, x, dx2, _, rfl, hxA, fl_length hl2 ld2 tb2, _, _, rfl, rfl, ⟨by decide, by decide, by decide⟩, x, ms, _, _, rfl, pcA, fun H11 sB => ?_⟩
    rw [elen]
    refine ⟨rfl, _, rfl, ?_⟩
    refine iteF ?_
    refine ⟨_, rfl, x, dx2, _, rfl, sB _ _ hxA, fl_postings hl2 ld2 tb2, x, ms, _, _, rfl, pcA.mono sB, mo, fun l1 ys H12 sC hl1 hL1 pry => ⟨Nat.zero_le _, fun b hb' => ?_⟩⟩
    have er : rowsAt (tabOf ms) ("odd" : Str) ("odd" : Str) = [] := by unfold rowsAt; rw [eo]; rfl
    rw [er] at pry
    cases pry
    have qD := same_new (o := HO.lst []) hb'
    refine ⟨dRows [], dp_rows (qD _ _ hL1) .nil, dp_rows upd_same .nil, (pl_rows _).1, (pl_rows _).2, _, rfl, iteF ?_⟩
    have sBD := (sB.trans sC).trans qD
    refine ⟨_, rfl, x, dx2, _, rfl, sBD _ _ hxA, fl_words hl2 ld2 tb2, x, ms, _, rfl, pcA.mono sBD, fun l2 H13 sE hl2' hL2 => ⟨Nat.zero_le _, fun b2 hb2 => ?_⟩⟩
    rw [eo] at hL2
    have hL2' : H13 l2 = some (.lst (([] : List Str).map V.str)) := by
      rw [hL2]
      show some (HO.lst ((sortS []).map V.str)) = _
      rw [sortS_nil]
    have qF := same_new (o := HO.lst []) hb2
    refine ⟨dStrs [], dp_strs (qF _ _ hL2'), dp_strs upd_same, (pl_strs (n := 62) _).1, (pl_strs (n := 62) _).2, _, rfl, iteF ?_⟩
    have sBF := (sBD.trans sE).trans qF
    -- all the same
    refine ⟨_, rfl, x, dx2, _, rfl, sBF _ _ hxA, fl_makes hl2 ld2 tb2, x, ms, rfl, pcA.mono sBF, fun l hl => ?_⟩
    have q5 := same_new (o := HO.lst (ms.map fun p => V.int p.1)) hl
    have sAX := sBF.trans q5
    obtain ⟨HX, eHX⟩ : ∃ HX, HX = upd (upd H13 b2 (.lst [])) l (.lst (ms.map fun p => V.int p.1)) := ⟨_, rfl⟩
    have hLX : HX l = some (.lst (ms.map fun p => V.int p.1)) := by rw [eHX, upd_same]
    rw [← eHX] at sAX ⊢
    have s1X := s1A.trans sAX
    have hAX := s1X _ _ hA
    have pdX : Paired (MD HX) xs ms := Paired.mapP pd fun _ _ z => z.mono (sTS s1X) (sLS s1X)
    refine ⟨_, rfl, a, rfl, ⟨xs, SqL.of hAX⟩, fun D2 hD2 => lc_it walk_list (fun i H2 => Same HX H2 ∧ H2 D2 = some (.lst ((ms.take i).map fun p => V.int p.1)))
      ⟨same_new hD2, upd_same⟩ (fun i H2 _ h => SqL.of (h.1 _ _ hAX)) ?_ ?_⟩
    · rintro i y H2 H3 hi ⟨sm, hL⟩ ⟨rfl, hy⟩
      obtain ⟨md, hmd, p, da, rfl, hp, _⟩ := pd_get pdX hy
      refine ⟨p, _, rfl, SqT.of (sm _ _ hp), rfl, _, _, rfl, _, _, rfl, rfl, rfl, ?_⟩
      refine ⟨_, rfl, _, hL, size_lt (by rw [List.length_map, List.length_take]; have := mo.len; omega), same_at sm hD2, ?_⟩
      have e : ms.take (i + 1) = ms.take i ++ [md] := by rw [List.take_add_one, hmd]; rfl
      rw [upd_same, e, List.map_append]
      rfl
    rintro H15 ⟨sG, hL15⟩
    rw [eL] at hL15
    refine ⟨dInts (ms.map (·.1)), dp_ints (by rw [← eI]; exact sG _ _ hLX), dp_ints (by rw [← eI]; exact hL15), (pl_ints (n := 62) _).1, (pl_ints (n := 62) _).2, _, rfl, iteT ?_⟩
    exact ⟨_, rfl, _, rfl, x, a, ms, rfl, (pcA.mono sAX).mono sG, ⟨xs, sG _ _ hAX, Paired.mapP pdX fun _ _ z => z.mono (sTS sG) (sLS sG)⟩, mo, fun H16 _ => k H16⟩
end
end KP
namespace KP
open PySem L2
theorem all_mk {l : PySem.W.OpenLaw} {w : World} {K : PySem.W.Frag} {h : Heap} {mg : Str → Option Value} {fa C f0 f1 f2 f3 f4 f5 f6 f7 f8 f9 f10 f11 f12 f13 f14 f15 f16 f17 f18 f19 f20 f21 f22 : Addr} (X : K.In h) (G : h.Ns mainGlobals mg) (hfa : mg "law" = some (.ref fa))
    {od0 an0 od1 an1 od2 an2 od3 an3 od4 an4 od5 an5 od6 an6 od7 an7 od8 an8 od9 an9 od10 an10 od11 an11 od12 an12 od13 an13 od14 an14 od15 an15 od16 an16 od17 an17 od18 an18 od19 an19 od20 an20 od21 an21 od22 an22 : Option Addr} {sl0 sl1 sl2 sl3 sl4 sl5 sl6 sl7 sl8 sl9 sl10 sl11 sl12 sl13 sl14 sl15 sl16 sl17 sl18 sl19 sl20 sl21 sl22 : Array (Option Value)} {oc0 kV0 dc0 pm0 cd0 ct0 oc1 kV1 dc1 pm1 cd1 ct1 oc2 kV2 dc2 pm2 cd2 ct2 oc3 kV3 dc3 pm3 cd3 ct3 oc4 kV4 dc4 pm4 cd4 ct4 oc5 kV5 dc5 pm5 cd5 ct5 oc6 kV6 dc6 pm6 cd6 ct6 oc7 kV7 dc7 pm7 cd7 ct7 oc8 kV8 dc8 pm8 cd8 ct8 oc9 kV9 dc9 pm9 cd9 ct9 oc10 kV10 dc10 pm10 cd10 ct10 oc11 kV11 dc11 pm11 cd11 ct11 oc12 kV12 dc12 pm12 cd12 ct12 oc13 kV13 dc13 pm13 cd13 ct13 oc14 kV14 dc14 pm14 cd14 ct14 oc15 kV15 dc15 pm15 cd15 ct15 oc16 kV16 dc16 pm16 cd16 ct16 oc17 kV17 dc17 pm17 cd17 ct17 oc18 kV18 dc18 pm18 cd18 ct18 oc19 kV19 dc19 pm19 cd19 ct19 oc20 kV20 dc20 pm20 cd20 ct20 oc21 kV21 dc21 pm21 cd21 ct21 oc22 kV22 dc22 pm22 cd22 ct22 : Value} {t0 t1 t2 : Tok}
    (aC : PySem.W.nsIn K mainGlobals "Piece" = some (some (.ref C)))
    (a0 : PySem.W.findIn K (.ref C) "__init__" = some (some (.ref f0))) (i0 : PySem.W.isFn K (.ref f0) = true)
    (l0 : K.lookup f0 = some ⟨oc0, od0, .func (PySem.W.fnOf "__init__" "Piece.__init__" (defArgs sInit) (defBody sInit) (defScope sInit) .none kV0 dc0 pm0 an0 cd0 ct0), sl0⟩) (c0 : PySem.W.codeIn K cd0 "Piece.__init__" = true) (k0 : PySem.W.keepIn K (.ref f0) = true)
    (a1 : PySem.W.findIn K (.ref C) "take_in" = some (some (.ref f1))) (i1 : PySem.W.isFn K (.ref f1) = true)
    (l1 : K.lookup f1 = some ⟨oc1, od1, .func (PySem.W.fnOf "take_in" "Piece.take_in" (defArgs sTakeIn) (defBody sTakeIn) (defScope sTakeIn) .none kV1 dc1 pm1 an1 cd1 ct1), sl1⟩) (c1 : PySem.W.codeIn K cd1 "Piece.take_in" = true) (k1 : PySem.W.keepIn K (.ref f1) = true)
    (a2 : PySem.W.findIn K (.ref C) "makes" = some (some (.ref f2))) (i2 : PySem.W.isFn K (.ref f2) = true)
    (l2 : K.lookup f2 = some ⟨oc2, od2, .func (PySem.W.fnOf "makes" "Piece.makes" (defArgs sMakes) (defBody sMakes) (defScope sMakes) .none kV2 dc2 pm2 an2 cd2 ct2), sl2⟩) (c2 : PySem.W.codeIn K cd2 "Piece.makes" = true) (k2 : PySem.W.keepIn K (.ref f2) = true)
    (a3 : PySem.W.findIn K (.ref C) "fields" = some (some (.ref f3))) (i3 : PySem.W.isFn K (.ref f3) = true)
    (l3 : K.lookup f3 = some ⟨oc3, od3, .func (PySem.W.fnOf "fields" "Piece.fields" (defArgs sFields) (defBody sFields) (defScope sFields) .none kV3 dc3 pm3 an3 cd3 ct3), sl3⟩) (c3 : PySem.W.codeIn K cd3 "Piece.fields" = true) (k3 : PySem.W.keepIn K (.ref f3) = true)
    (a4 : PySem.W.findIn K (.ref C) "words" = some (some (.ref f4))) (i4 : PySem.W.isFn K (.ref f4) = true)
    (l4 : K.lookup f4 = some ⟨oc4, od4, .func (PySem.W.fnOf "words" "Piece.words" (defArgs sWords) (defBody sWords) (defScope sWords) .none kV4 dc4 pm4 an4 cd4 ct4), sl4⟩) (c4 : PySem.W.codeIn K cd4 "Piece.words" = true) (k4 : PySem.W.keepIn K (.ref f4) = true)
    (a5 : PySem.W.findIn K (.ref C) "postings" = some (some (.ref f5))) (i5 : PySem.W.isFn K (.ref f5) = true)
    (l5 : K.lookup f5 = some ⟨oc5, od5, .func (PySem.W.fnOf "postings" "Piece.postings" (defArgs sPostings) (defBody sPostings) (defScope sPostings) .none kV5 dc5 pm5 an5 cd5 ct5), sl5⟩) (c5 : PySem.W.codeIn K cd5 "Piece.postings" = true) (k5 : PySem.W.keepIn K (.ref f5) = true)
    (a6 : PySem.W.findIn K (.ref C) "length" = some (some (.ref f6))) (i6 : PySem.W.isFn K (.ref f6) = true)
    (l6 : K.lookup f6 = some ⟨oc6, od6, .func (PySem.W.fnOf "length" "Piece.length" (defArgs sLength) (defBody sLength) (defScope sLength) .none kV6 dc6 pm6 an6 cd6 ct6), sl6⟩) (c6 : PySem.W.codeIn K cd6 "Piece.length" = true) (k6 : PySem.W.keepIn K (.ref f6) = true)
    (a7 : PySem.W.nsIn K mainGlobals "is_name" = some (some (.ref f7)))
    (l7 : K.lookup f7 = some ⟨oc7, od7, .func (PySem.W.fnOf "is_name" "is_name" (defArgs sIsName) (defBody sIsName) (defScope sIsName) .none kV7 dc7 pm7 an7 cd7 ct7), sl7⟩) (c7 : PySem.W.codeIn K cd7 "is_name" = true) (k7 : PySem.W.keepIn K (.ref f7) = true)
    (a8 : PySem.W.nsIn K mainGlobals "look_at_document" = some (some (.ref f8)))
    (l8 : K.lookup f8 = some ⟨oc8, od8, .func (PySem.W.fnOf "look_at_document" "look_at_document" (defArgs sLookDoc) (defBody sLookDoc) (defScope sLookDoc) .none kV8 dc8 pm8 an8 cd8 ct8), sl8⟩) (c8 : PySem.W.codeIn K cd8 "look_at_document" = true) (k8 : PySem.W.keepIn K (.ref f8) = true)
    (a9 : PySem.W.nsIn K mainGlobals "lowered" = some (some (.ref f9)))
    (l9 : K.lookup f9 = some ⟨oc9, od9, .func (PySem.W.fnOf "lowered" "lowered" (defArgs sLowered) (defBody sLowered) (defScope sLowered) .none kV9 dc9 pm9 an9 cd9 ct9), sl9⟩) (c9 : PySem.W.codeIn K cd9 "lowered" = true) (k9 : PySem.W.keepIn K (.ref f9) = true)
    (a10 : PySem.W.nsIn K mainGlobals "words_of" = some (some (.ref f10)))
    (l10 : K.lookup f10 = some ⟨oc10, od10, .func (PySem.W.fnOf "words_of" "words_of" (defArgs sWordsOf) (defBody sWordsOf) (defScope sWordsOf) .none kV10 dc10 pm10 an10 cd10 ct10), sl10⟩) (c10 : PySem.W.codeIn K cd10 "words_of" = true) (k10 : PySem.W.keepIn K (.ref f10) = true)
    (a11 : PySem.W.nsIn K mainGlobals "look_at_makes" = some (some (.ref f11)))
    (l11 : K.lookup f11 = some ⟨oc11, od11, .func (PySem.W.fnOf "look_at_makes" "look_at_makes" (defArgs sLookMakes) (defBody sLookMakes) (defScope sLookMakes) .none kV11 dc11 pm11 an11 cd11 ct11), sl11⟩) (c11 : PySem.W.codeIn K cd11 "look_at_makes" = true) (k11 : PySem.W.keepIn K (.ref f11) = true)
    (a12 : PySem.W.nsIn K mainGlobals "counted" = some (some (.ref f12)))
    (l12 : K.lookup f12 = some ⟨oc12, od12, .func (PySem.W.fnOf "counted" "counted" (defArgs sCounted) (defBody sCounted) (defScope sCounted) .none kV12 dc12 pm12 an12 cd12 ct12), sl12⟩) (c12 : PySem.W.codeIn K cd12 "counted" = true) (k12 : PySem.W.keepIn K (.ref f12) = true)
    (a13 : PySem.W.nsIn K mainGlobals "copied_postings" = some (some (.ref f13)))
    (l13 : K.lookup f13 = some ⟨oc13, od13, .func (PySem.W.fnOf "copied_postings" "copied_postings" (defArgs sCopied) (defBody sCopied) (defScope sCopied) .none kV13 dc13 pm13 an13 cd13 ct13), sl13⟩) (c13 : PySem.W.codeIn K cd13 "copied_postings" = true) (k13 : PySem.W.keepIn K (.ref f13) = true)
    (a14 : PySem.W.nsIn K mainGlobals "_law_draws" = some (some (.ref f14)))
    (l14 : K.lookup f14 = some ⟨oc14, od14, .func (PySem.W.fnOf "_law_draws" "_law_draws" (defArgs sDraws) (defBody sDraws) (defScope sDraws) .none kV14 dc14 pm14 an14 cd14 ct14), sl14⟩) (c14 : PySem.W.codeIn K cd14 "_law_draws" = true) (k14 : PySem.W.keepIn K (.ref f14) = true)
    (a15 : PySem.W.nsIn K mainGlobals "_law_text" = some (some (.ref f15)))
    (l15 : K.lookup f15 = some ⟨oc15, od15, .func (PySem.W.fnOf "_law_text" "_law_text" (defArgs sText) (defBody sText) (defScope sText) .none kV15 dc15 pm15 an15 cd15 ct15), sl15⟩) (c15 : PySem.W.codeIn K cd15 "_law_text" = true) (k15 : PySem.W.keepIn K (.ref f15) = true)
    (a16 : PySem.W.nsIn K mainGlobals "_law_document" = some (some (.ref f16)))
    (l16 : K.lookup f16 = some ⟨oc16, od16, .func (PySem.W.fnOf "_law_document" "_law_document" (defArgs sDocument) (defBody sDocument) (defScope sDocument) .none kV16 dc16 pm16 an16 cd16 ct16), sl16⟩) (c16 : PySem.W.codeIn K cd16 "_law_document" = true) (k16 : PySem.W.keepIn K (.ref f16) = true)
    (a17 : PySem.W.nsIn K mainGlobals "_law_words" = some (some (.ref f17)))
    (l17 : K.lookup f17 = some ⟨oc17, od17, .func (PySem.W.fnOf "_law_words" "_law_words" (defArgs sLWords) (defBody sLWords) (defScope sLWords) .none kV17 dc17 pm17 an17 cd17 ct17), sl17⟩) (c17 : PySem.W.codeIn K cd17 "_law_words" = true) (k17 : PySem.W.keepIn K (.ref f17) = true)
    (a18 : PySem.W.nsIn K mainGlobals "_law_table" = some (some (.ref f18)))
    (l18 : K.lookup f18 = some ⟨oc18, od18, .func (PySem.W.fnOf "_law_table" "_law_table" (defArgs sLTable) (defBody sLTable) (defScope sLTable) .none kV18 dc18 pm18 an18 cd18 ct18), sl18⟩) (c18 : PySem.W.codeIn K cd18 "_law_table" = true) (k18 : PySem.W.keepIn K (.ref f18) = true)
    (a19 : PySem.W.nsIn K mainGlobals "_law_tells" = some (some (.ref f19)))
    (l19 : K.lookup f19 = some ⟨oc19, od19, .func (PySem.W.fnOf "_law_tells" "_law_tells" (defArgs sLTells) (defBody sLTells) (defScope sLTells) .none kV19 dc19 pm19 an19 cd19 ct19), sl19⟩) (c19 : PySem.W.codeIn K cd19 "_law_tells" = true) (k19 : PySem.W.keepIn K (.ref f19) = true)
    (a20 : PySem.W.nsIn K mainGlobals "_law_makes" = some (some (.ref f20)))
    (l20 : K.lookup f20 = some ⟨oc20, od20, .func (PySem.W.fnOf "_law_makes" "_law_makes" (defArgs sLMakes) (defBody sLMakes) (defScope sLMakes) .none kV20 dc20 pm20 an20 cd20 ct20), sl20⟩) (c20 : PySem.W.codeIn K cd20 "_law_makes" = true) (k20 : PySem.W.keepIn K (.ref f20) = true)
    (a21 : PySem.W.nsIn K mainGlobals "_law_spoil" = some (some (.ref f21)))
    (l21 : K.lookup f21 = some ⟨oc21, od21, .func (PySem.W.fnOf "_law_spoil" "_law_spoil" (defArgs sLSpoil) (defBody sLSpoil) (defScope sLSpoil) .none kV21 dc21 pm21 an21 cd21 ct21), sl21⟩) (c21 : PySem.W.codeIn K cd21 "_law_spoil" = true) (k21 : PySem.W.keepIn K (.ref f21) = true)
    (a22 : PySem.W.nsIn K mainGlobals "law" = some (some (.ref f22)))
    (l22 : K.lookup f22 = some ⟨oc22, od22, .func (PySem.W.fnOf "law" "law" (defArgs sLaw) (defBody sLaw) (defScope sLaw) .none kV22 dc22 pm22 an22 cd22 ct22), sl22⟩) (c22 : PySem.W.codeIn K cd22 "law" = true) (k22 : PySem.W.keepIn K (.ref f22) = true)
    (pg : PySem.W.plainGet K C Str.empty = true) (hd : PySem.W.hasDictIn K C = true) (po : PySem.W.plainOver K C = true) (sa : PySem.W.findIn K (.ref C) "__setattr__" = some (some (.builtin "object.__setattr__"))) (mk : PySem.W.makesIn K C = true) (kc : PySem.W.keepIn K (.ref C) = true)
    (nH : PySem.W.findIn K (.ref C) "held_makes" = some none) (nL : PySem.W.findIn K (.ref C) "lengths" = some none) (nT : PySem.W.findIn K (.ref C) "table" = some none)
    (x0 : PySem.W.nsIn K mainGlobals "LETTERS" = some (some (.str "abcdefghijklmnopqrstuvwxyz" t0)))
    (x1 : PySem.W.nsIn K mainGlobals "GREAT" = some (some (.str "ABCDEFGHIJKLMNOPQRSTUVWXYZ" t1)))
    (x2 : PySem.W.nsIn K mainGlobals "FIGURES" = some (some (.str "0123456789" t2)))
    (z0 : PySem.W.nsIn K mainGlobals "len" = some none)
    (z1 : PySem.W.nsIn K mainGlobals "all" = some none)
    (z2 : PySem.W.nsIn K mainGlobals "enumerate" = some none)
    (z3 : PySem.W.nsIn K mainGlobals "list" = some none)
    (z4 : PySem.W.nsIn K mainGlobals "sorted" = some none)
    (z5 : PySem.W.nsIn K mainGlobals "range" = some none)
    (z6 : PySem.W.nsIn K mainGlobals "abs" = some none)
    (z7 : PySem.W.nsIn K mainGlobals "isinstance" = some none)
    (z8 : PySem.W.nsIn K mainGlobals "bool" = some none)
    (z9 : PySem.W.nsIn K mainGlobals "dict" = some none)
    (z10 : PySem.W.nsIn K mainGlobals "min" = some none)
    (z11 : PySem.W.nsIn K mainGlobals "int" = some none)
    : ∃ fd : FuncData, (∀ (s : Shared) (v : Value), BindsTo s fd ⟨[v], []⟩ [("_law_script", v)]) ∧ ∀ base : Heap, K.In base → base.Ns mainGlobals mg → FnOk l.prog w K mg base CX0 6 fa fd ["_law_script"] (spLaw K) := by
  have e := hfa.symm.trans (PySem.W.mg_of X G a22)
  cases e
  have T : Txt K mg C := ⟨⟨pg, hd, po, sa⟩, nH, nL, nT, PySem.W.mg_of X G aC, ⟨_, PySem.W.mg_of X G x0⟩, ⟨_, PySem.W.mg_of X G x1⟩, ⟨_, PySem.W.mg_of X G x2⟩, PySem.W.mg_none_of X G z0, PySem.W.mg_none_of X G z1, PySem.W.mg_none_of X G z2, PySem.W.mg_none_of X G z3, PySem.W.mg_none_of X G z4, PySem.W.mg_none_of X G z5, PySem.W.mg_none_of X G z6, PySem.W.mg_none_of X G z7, PySem.W.mg_none_of X G z8, PySem.W.mg_none_of X G z9, PySem.W.mg_none_of X G z10, PySem.W.mg_none_of X G z11⟩
  have F0 := fun_mk (st := sInit) l0 c0 k0
  have b0 := F0.binds (ps := ["self", "makes"]) fun _ _ _ _ _ _ us hl => match us, hl with | [_, _], _ => rfl
  have F1 := fun_mk (st := sTakeIn) l1 c1 k1
  have b1 := F1.binds (ps := ["self", "field", "make", "places"]) fun _ _ _ _ _ _ us hl => match us, hl with | [_, _, _, _], _ => rfl
  have F2 := fun_mk (st := sMakes) l2 c2 k2
  have b2 := F2.binds (ps := ["self"]) fun _ _ _ _ _ _ us hl => match us, hl with | [_], _ => rfl
  have F3 := fun_mk (st := sFields) l3 c3 k3
  have b3 := F3.binds (ps := ["self"]) fun _ _ _ _ _ _ us hl => match us, hl with | [_], _ => rfl
  have F4 := fun_mk (st := sWords) l4 c4 k4
  have b4 := F4.binds (ps := ["self", "field"]) fun _ _ _ _ _ _ us hl => match us, hl with | [_, _], _ => rfl
  have F5 := fun_mk (st := sPostings) l5 c5 k5
  have b5 := F5.binds (ps := ["self", "field", "word"]) fun _ _ _ _ _ _ us hl => match us, hl with | [_, _, _], _ => rfl
  have F6 := fun_mk (st := sLength) l6 c6 k6
  have b6 := F6.binds (ps := ["self", "make", "field"]) fun _ _ _ _ _ _ us hl => match us, hl with | [_, _, _], _ => rfl
  have F7 := fun_mk (st := sIsName) l7 c7 k7
  have b7 := F7.binds (ps := ["text"]) fun _ _ _ _ _ _ us hl => match us, hl with | [_], _ => rfl
  have F8 := fun_mk (st := sLookDoc) l8 c8 k8
  have b8 := F8.binds (ps := ["document"]) fun _ _ _ _ _ _ us hl => match us, hl with | [_], _ => rfl
  have F9 := fun_mk (st := sLowered) l9 c9 k9
  have b9 := F9.binds (ps := ["sign"]) fun _ _ _ _ _ _ us hl => match us, hl with | [_], _ => rfl
  have F10 := fun_mk (st := sWordsOf) l10 c10 k10
  have b10 := F10.binds (ps := ["text"]) fun _ _ _ _ _ _ us hl => match us, hl with | [_], _ => rfl
  have F11 := fun_mk (st := sLookMakes) l11 c11 k11
  have b11 := F11.binds (ps := ["makes"]) fun _ _ _ _ _ _ us hl => match us, hl with | [_], _ => rfl
  have F12 := fun_mk (st := sCounted) l12 c12 k12
  have b12 := F12.binds (ps := ["document"]) fun _ _ _ _ _ _ us hl => match us, hl with | [_], _ => rfl
  have F13 := fun_mk (st := sCopied) l13 c13 k13
  have b13 := F13.binds (ps := ["postings"]) fun _ _ _ _ _ _ us hl => match us, hl with | [_], _ => rfl
  have F14 := fun_mk (st := sDraws) l14 c14 k14
  have b14 := F14.binds (ps := ["_law_cell", "_law_many", "_law_base", "_law_free"]) fun _ _ _ _ _ _ us hl => match us, hl with | [_, _, _, _], _ => rfl
  have F15 := fun_mk (st := sText) l15 c15 k15
  have b15 := F15.binds (ps := ["_law_cell"]) fun _ _ _ _ _ _ us hl => match us, hl with | [_], _ => rfl
  have F16 := fun_mk (st := sDocument) l16 c16 k16
  have b16 := F16.binds (ps := ["_law_cell", "_law_more"]) fun _ _ _ _ _ _ us hl => match us, hl with | [_, _], _ => rfl
  have F17 := fun_mk (st := sLWords) l17 c17 k17
  have b17 := F17.binds (ps := ["_law_text_here"]) fun _ _ _ _ _ _ us hl => match us, hl with | [_], _ => rfl
  have F18 := fun_mk (st := sLTable) l18 c18 k18
  have b18 := F18.binds (ps := ["_law_makes_here"]) fun _ _ _ _ _ _ us hl => match us, hl with | [_], _ => rfl
  have F19 := fun_mk (st := sLTells) l19 c19 k19
  have b19 := F19.binds (ps := ["_law_thing", "_law_makes_here"]) fun _ _ _ _ _ _ us hl => match us, hl with | [_, _], _ => rfl
  have F20 := fun_mk (st := sLMakes) l20 c20 k20
  have b20 := F20.binds (ps := ["_law_script"]) fun _ _ _ _ _ _ us hl => match us, hl with | [_], _ => rfl
  have F21 := fun_mk (st := sLSpoil) l21 c21 k21
  have b21 := F21.binds (ps := ["_law_piece", "_law_makes_here"]) fun _ _ _ _ _ _ us hl => match us, hl with | [_, _], _ => rfl
  have F22 := fun_mk (st := sLaw) l22 c22 k22
  have Z : Defs K mg C f7 f8 f9 f10 f11 f12 f1 _ _ _ _ _ _ _ := ⟨⟨F7, b7, PySem.W.mg_of X G a7⟩, ⟨F8, b8, PySem.W.mg_of X G a8⟩, ⟨F9, b9, PySem.W.mg_of X G a9⟩, ⟨F10, b10, PySem.W.mg_of X G a10⟩, ⟨F11, b11, PySem.W.mg_of X G a11⟩, ⟨F12, b12, PySem.W.mg_of X G a12⟩, F1, b1, ⟨a1, i1, k1⟩⟩
  have M : Ms K mg C f2 f3 f4 f5 f6 f13 _ _ _ _ _ _ := ⟨F2, b2, ⟨a2, i2, k2⟩, F3, b3, ⟨a3, i3, k3⟩, F4, b4, ⟨a4, i4, k4⟩, F5, b5, ⟨a5, i5, k5⟩, F6, b6, ⟨a6, i6, k6⟩, ⟨F13, b13, PySem.W.mg_of X G a13⟩⟩
  exact ⟨PySem.W.fnOf "law" "law" (defArgs sLaw) (defBody sLaw) (defScope sLaw) .none kV22 dc22 pm22 an22 cd22 ct22, fun s v => .of_eq rfl, fun base _ _ =>
    ok_law F22 T Z M ⟨mk, a0, i0, kc⟩ F0 b0 ⟨F20, b20, PySem.W.mg_of X G a20⟩ ⟨F16, b16, PySem.W.mg_of X G a16⟩ ⟨F14, b14, PySem.W.mg_of X G a14⟩ ⟨F15, b15, PySem.W.mg_of X G a15⟩ ⟨F19, b19, PySem.W.mg_of X G a19⟩ ⟨F18, b18, PySem.W.mg_of X G a18⟩ ⟨F17, b17, PySem.W.mg_of X G a17⟩ ⟨F21, b21, PySem.W.mg_of X G a21⟩⟩
theorem walk {l : PySem.W.OpenLaw} {q : Program} {loose : List Str} {XP : (Str → Option Value) → Heap → Prop} {YP : World → Heap → Prop} {d : DefRec} {K : Params → PySem.W.Frag} (hn : l.most = some 63) (hdf : d.params.defaults = [])
    (hY : ∀ (w : World) (h : Heap), YP w h → (K w.params).In h)
    (F : ∀ (w : World) (mg : Str → Option Value) (fa : Addr) (h : Heap), (K w.params).In h → h.Ns mainGlobals mg → mg d.name = some (.ref fa) →
      ∃ fd : FuncData, (∀ (s : Shared) (u : Value), BindsTo s fd ⟨[u], []⟩ [("_law_script", u)]) ∧ ∀ base : Heap, (K w.params).In base → base.Ns mainGlobals mg → FnOk l.prog w (K w.params) mg base CX0 6 fa fd ["_law_script"] (spLaw (K w.params))) :
    PySem.W.WalkO q loose XP YP l.row.toRowW d [] (fun f vs => PySem.call f vs) :=
  L2.walk_of (n := 63) (k := 6) (x := "_law_script") (CX := fun _ => CX0) (sp := fun w => spLaw (K w.params)) hn (by decide) hdf ⟨rfl, by decide, by decide⟩ hY F (fun _ _ a ns hl _ hS => ⟨a, ns, rfl, hS, hl, fun _ => rfl⟩) fun _ _ _ _ _ z => z
end KP

open PySem PySem.W PyProof.Rows in
set_option maxRecDepth 100000 in
set_option maxHeartbeats 0 in
theorem PySem.Challenge.cw_findcourt_k06_pieces_holds : PySem.Challenge.rw_findcourt_k06_pieces.Holds := by
  w_on; o_law; k_head; (case hw => w_witness2)
  k_fill
  refine KP.walk (l := PySem.Challenge.rw_findcourt_k06_pieces) rfl rfl (fun w h Y => PySem.W.kIn_of Y) ?F
  case F =>
    intro w mg fa h KX G hmg
    refine' KP.all_mk KX G hmg ?aC ?a0 ?i0 ?l0 ?c0 ?k0 ?a1 ?i1 ?l1 ?c1 ?k1 ?a2 ?i2 ?l2 ?c2 ?k2 ?a3 ?i3 ?l3 ?c3 ?k3 ?a4 ?i4 ?l4 ?c4 ?k4 ?a5 ?i5 ?l5 ?c5 ?k5 ?a6 ?i6 ?l6 ?c6 ?k6 ?a7 ?l7 ?c7 ?k7 ?a8 ?l8 ?c8 ?k8 ?a9 ?l9 ?c9 ?k9 ?a10 ?l10 ?c10 ?k10 ?a11 ?l11 ?c11 ?k11 ?a12 ?l12 ?c12 ?k12 ?a13 ?l13 ?c13 ?k13 ?a14 ?l14 ?c14 ?k14 ?a15 ?l15 ?c15 ?k15 ?a16 ?l16 ?c16 ?k16 ?a17 ?l17 ?c17 ?k17 ?a18 ?l18 ?c18 ?k18 ?a19 ?l19 ?c19 ?k19 ?a20 ?l20 ?c20 ?k20 ?a21 ?l21 ?c21 ?k21 ?a22 ?l22 ?c22 ?k22 ?pg ?hd ?po ?sa ?mk ?kc ?nH ?nL ?nT ?x0 ?x1 ?x2 ?z0 ?z1 ?z2 ?z3 ?z4 ?z5 ?z6 ?z7 ?z8 ?z9 ?z10 ?z11
    (case aC => k_is)
    (case a0 => k_is)
    (case i0 => k_is)
    (case l0 => k_is)
    (case c0 => k_is)
    (case k0 => k_is)
    (case a1 => k_is)
    (case i1 => k_is)
    (case l1 => k_is)
    (case c1 => k_is)
    (case k1 => k_is)
    (case a2 => k_is)
    (case i2 => k_is)
    (case l2 => k_is)
    (case c2 => k_is)
    (case k2 => k_is)
    (case a3 => k_is)
    (case i3 => k_is)
    (case l3 => k_is)
    (case c3 => k_is)
    (case k3 => k_is)
    (case a4 => k_is)
    (case i4 => k_is)
    (case l4 => k_is)
    (case c4 => k_is)
    (case k4 => k_is)
    (case a5 => k_is)
    (case i5 => k_is)
    (case l5 => k_is)
    (case c5 => k_is)
    (case k5 => k_is)
    (case a6 => k_is)
    (case i6 => k_is)
    (case l6 => k_is)
    (case c6 => k_is)
    (case k6 => k_is)
    (case a7 => k_is)
    (case l7 => k_is)
    (case c7 => k_is)
    (case k7 => k_is)
    (case a8 => k_is)
    (case l8 => k_is)
    (case c8 => k_is)
    (case k8 => k_is)
    (case a9 => k_is)
    (case l9 => k_is)
    (case c9 => k_is)
    (case k9 => k_is)
    (case a10 => k_is)
    (case l10 => k_is)
    (case c10 => k_is)
    (case k10 => k_is)
    (case a11 => k_is)
    (case l11 => k_is)
    (case c11 => k_is)
    (case k11 => k_is)
    (case a12 => k_is)
    (case l12 => k_is)
    (case c12 => k_is)
    (case k12 => k_is)
    (case a13 => k_is)
    (case l13 => k_is)
    (case c13 => k_is)
    (case k13 => k_is)
    (case a14 => k_is)
    (case l14 => k_is)
    (case c14 => k_is)
    (case k14 => k_is)
    (case a15 => k_is)
    (case l15 => k_is)
    (case c15 => k_is)
    (case k15 => k_is)
    (case a16 => k_is)
    (case l16 => k_is)
    (case c16 => k_is)
    (case k16 => k_is)
    (case a17 => k_is)
    (case l17 => k_is)
    (case c17 => k_is)
    (case k17 => k_is)
    (case a18 => k_is)
    (case l18 => k_is)
    (case c18 => k_is)
    (case k18 => k_is)
    (case a19 => k_is)
    (case l19 => k_is)
    (case c19 => k_is)
    (case k19 => k_is)
    (case a20 => k_is)
    (case l20 => k_is)
    (case c20 => k_is)
    (case k20 => k_is)
    (case a21 => k_is)
    (case l21 => k_is)
    (case c21 => k_is)
    (case k21 => k_is)
    (case a22 => k_is)
    (case l22 => k_is)
    (case c22 => k_is)
    (case k22 => k_is)
    (case pg => k_is)
    (case hd => k_is)
    (case po => k_is)
    (case sa => k_is)
    (case mk => k_is)
    (case kc => k_is)
    (case nH => k_is)
    (case nL => k_is)
    (case nT => k_is)
    (case x0 => k_is)
    (case x1 => k_is)
    (case x2 => k_is)
    (case z0 => k_is)
    (case z1 => k_is)
    (case z2 => k_is)
    (case z3 => k_is)
    (case z4 => k_is)
    (case z5 => k_is)
    (case z6 => k_is)
    (case z7 => k_is)
    (case z8 => k_is)
    (case z9 => k_is)
    (case z10 => k_is)
    (case z11 => k_is)
