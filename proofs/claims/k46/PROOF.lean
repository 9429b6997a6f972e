import PyProof.Rows.All
import Wide.All
import OpenK.AllK
import Wide.FinOn
import HandS.Nested
import HandS.Words
import HandS.ExcInit
import KE.KSuper
import KE.KStateDown
import HandS.Head0
import HandS.Head1
import HandS.Head2
import HandS.HeadHook1
import HandS.HeadHook2
import HandS.ForMost
import HandS.ForExc
import HandS.NestedK
import HandS.Lambda
import HandS.TupAny
import HandS.TupMul
import HandS.Conv
import HandS.IsInst
import HandS.Zip
import KE.KDflt
import HandS.Wide
import HandS.ExcIs
import HandS.ExcField
import HandS.Property
import HandS.ClsMeth
import HandS.MakeKwOnly
import HandS.CallLocal
import HandS.CallSlots
import HandS.TryMany
import HandS.Defaults
import HandS.Flow
import HandS.SetFor
import HandS.Walk
import HandS.Comp
import KE.KExcIs
import KE.GoesEnum
import PyProof.EnumMake
import HandS.EndOwn
import KE.KNest
import HandS.Style
import KE.KUnpackStar
import HandS.GenList
import HandS.GenYield
import KE.LtData
import HandS.Strs
import PyProof.LongRange
import KE.KDictPairs
import KE.GoesZip
import HandS.Sort
import PyProof.ListRange
import KE.SortData
import HandS.Deep
import KE.KWithOwn
import KE.GoesComp
import KE.KAsSuite
import HandS.DictComp
import PyProof.ListMulRoad
import PyProof.FactsAll.tuple_2
import HandS.SetBool
import HandS.Star
import KE.SortKeyHeap
import HandS.SortKw
import HandS.IterNext
import HandS.More
import PySem.Challenge.RW_wornbridges_k46_bytes_of_towns
set_option Elab.async false
set_option linter.all false
set_option maxRecDepth 100000
set_option maxHeartbeats 2000000
namespace HD
open PySem PySem.Spec PyProof.Rows L2
abbrev Fr := PySem.W.Frag
def visit : List Addr → Nat → List Addr → Nat × List Addr
  | [], m, acc => (m, acc)
  | b :: r, m, acc => match Nat.beq (Nat.land (Nat.shiftRight m b) 1) 1 with
    | true => visit r m acc
    | false => visit r (Nat.lor m (Nat.shiftLeft 1 b)) (b :: acc)
def refsAt (g : Addr → Option Obj) (a : Addr) : List Addr := match g a with
  | some o => He.refsD o
  | none => []
def reach (g : Addr → Option Obj) : Nat → Nat → List Addr → List Addr
  | 0, _, fr => fr
  | n + 1, m, fr => match visit (fr.flatMap (refsAt g)) m [] with
    | (m', new) => fr ++ reach g n m' new
def vAd : Value → Addr
  | .ref a => a
  | _ => 0
def vTok : Value → Tok
  | .int _ t => t
  | .str _ t => t
  | _ => default
def vStr : Value → Str
  | .str s _ => s
  | _ => Str.empty
def vInt : Value → Int
  | .int i _ => i
  | _ => 0
def vBool : Value → Bool
  | .bool b => b
  | _ => false
def oV : Option (Option Value) → Value
  | some (some v) => v
  | _ => .none
def cV : Option PySem.W.CFound → Value
  | some (.val v) => v
  | _ => .none
/-- the object that a class's static or class method is read from -/
def cP : Option PySem.W.CFound → Addr
  | some (.get _ a _ _) => vAd a
  | _ => 0
def lV : Option (List Value) → List Value
  | some l => l
  | none => []
def ob (K : Fr) (a : Addr) : Obj := match K.lookup a with
  | some o => o
  | none => default
def dFn : Data → FuncData
  | .func fd => fd
  | _ => default
def dFl : Data → Array Value
  | .fields vs => vs
  | _ => #[]
def fd (K : Fr) (a : Addr) : FuncData := dFn (ob K a).data
def fl (K : Fr) (a : Addr) : Array Value := dFl (ob K a).data
/-- by names -/
def glo (K : Fr) (x : Str) : Addr := vAd (oV (PySem.W.nsIn K mainGlobals x))
def mem (K : Fr) (C : Addr) (x : Str) : Addr := vAd (oV (PySem.W.findIn K (.ref C) x))
def rec_ (K : Fr) (p : Addr) (T : String) (i : Nat) : Addr := vAd ((lV (PySem.W.recIn K p T)).getD i .none)
def cls_ (K : Fr) (C : Addr) (x : Str) : Option PySem.W.CFound := PySem.W.findCls K (.ref C) (.type "type") x
def tab (K : Fr) (a : Addr) : Addr := vAd ((fl K (vAd (fd K a).code)).getD 11 .none)
def clo (K : Fr) (a : Addr) : Addr := match (fd K a).closure with
  | (_, c) :: _ => c
  | [] => 0
def keepF (ps : List Addr) (K : Fr) : Fr := K.filter fun p => !(ps.any fun a => Nat.beq a p.1)
theorem keepF_at {ps : List Addr} {a : Addr} {o : Obj} : ∀ {K : Fr}, (keepF ps K).lookup a = some o → K.lookup a = some o ∨ ∃ b ∈ K, b.1 = a ∧ (ps.any fun x => Nat.beq x b.1) = true
  | [], e => by cases e
  | (b, ob) :: K, e => by
    unfold keepF at e
    rw [List.filter_cons] at e
    by_cases q : (ps.any fun a => Nat.beq a b) = true
    · rw [show (!(ps.any fun a => Nat.beq a (b, ob).1)) = false by show (!(ps.any fun a => Nat.beq a b)) = false; rw [q]; rfl] at e
      by_cases ab : a = b
      · exact .inr ⟨(b, ob), by simp, ab.symm, q⟩
      · rcases keepF_at (K := K) e with h | ⟨c, h1, h2⟩
        · refine .inl ?_
          rw [List.lookup_cons, show (a == b) = false by simpa using ab]
          exact h
        · exact .inr ⟨c, List.mem_cons_of_mem _ h1, h2⟩
    · rw [show (!(ps.any fun a => Nat.beq a (b, ob).1)) = true by show (!(ps.any fun a => Nat.beq a b)) = true; rw [Bool.eq_false_iff.mpr q]; rfl] at e
      rw [if_pos rfl, List.lookup_cons] at e
      by_cases ab : a = b
      · subst ab
        refine .inl ?_
        rw [List.lookup_cons]
        simpa using e
      · rw [show (a == b) = false by simpa using ab] at e
        rcases keepF_at (K := K) e with h | ⟨c, h1, h2⟩
        · refine .inl ?_
          rw [List.lookup_cons, show (a == b) = false by simpa using ab]
          exact h
        · exact .inr ⟨c, List.mem_cons_of_mem _ h1, h2⟩
theorem keepF_not {ps : List Addr} {a : Addr} (h : (ps.any fun x => Nat.beq x a) = true) : ∀ {K : Fr}, (keepF ps K).lookup a = none
  | [] => rfl
  | (b, ob) :: K => by
    unfold keepF
    rw [List.filter_cons]
    by_cases q : (ps.any fun a => Nat.beq a b) = true
    · rw [show (!(ps.any fun a => Nat.beq a (b, ob).1)) = false by show (!(ps.any fun a => Nat.beq a b)) = false; rw [q]; rfl]
      exact keepF_not h (K := K)
    · rw [show (!(ps.any fun a => Nat.beq a (b, ob).1)) = true by show (!(ps.any fun a => Nat.beq a b)) = true; rw [Bool.eq_false_iff.mpr q]; rfl]
      rw [if_pos rfl, List.lookup_cons]
      have ab : ¬ a = b := fun e => q (e ▸ h)
      rw [show (a == b) = false by simpa using ab]
      exact keepF_not h (K := K)
theorem keepF_in {ps : List Addr} {K : Fr} {h : Heap} (X : K.In h) : (keepF ps K).In h := fun a o e => by
  rcases keepF_at e with q | ⟨b, h1, h2, h3⟩
  · exact X a o q
  · rw [keepF_not (K := K) (h2 ▸ h3)] at e
    cases e
def forceL {α : Type} : Fr → (Fr → α) → α
  | [], k => k []
  | p :: r, k => forceL r fun r' => k (p :: r')
theorem forceL_eq {α : Type} : ∀ (l : Fr) (k : Fr → α), forceL l k = k l
  | [], _ => rfl
  | p :: r, k => forceL_eq r fun r' => k (p :: r')
def forceN {α : Type} : List Nat → (List Nat → α) → α
  | [], k => k []
  | n :: r, k => HandSHeadRun.frNat n fun n => forceN r fun r' => k (n :: r')
theorem forceN_eq {α : Type} : ∀ (l : List Nat) (k : List Nat → α), forceN l k = k l
  | [], _ => rfl
  | n :: r, k => by
    show HandSHeadRun.frNat n (fun n => forceN r fun r' => k (n :: r')) = _
    rw [HandSHeadRun.frNat_eq]
    exact forceN_eq r fun r' => k (n :: r')
def maskOf : List Addr → Nat
  | [] => 0
  | a :: r => Nat.lor (Nat.shiftLeft 1 a) (maskOf r)
def roots : List Addr := [mainGlobals, PySem.cStatics]
/-- n: steps; ls: the defs whose tables of code objects are left out -/
def part0 (n : Nat) (g : Addr → Option Obj) : Fr := He.frG g (reach g n (maskOf roots) roots)
def part (n : Nat) (ls : Fr → List Addr) (g : Addr → Option Obj) : Fr := keepF ((ls (part0 n g)).map (tab (part0 n g))) (part0 n g)
def withK {α : Type} (n : Nat) (ls : Fr → List Addr) (g : Addr → Option Obj) (k : Fr → α) : α :=
  forceL (part0 n g) fun K0 => forceN ((ls K0).map (tab K0)) fun ps => forceL (keepF ps K0) k
theorem withK_eq {α : Type} {n : Nat} {ls : Fr → List Addr} {g : Addr → Option Obj} (k : Fr → α) : withK n ls g k = k (part n ls g) := by
  unfold withK
  rw [forceL_eq, forceN_eq, forceL_eq]
  rfl
theorem part_in {n : Nat} {ls : Fr → List Addr} {h : Heap} : (part n ls h.get?).In h := keepF_in He.frG_in
abbrev FnV : Type := Option (Str × Str × Arguments × FuncBody × Scope × Addr × List Str × Value × Addr)
def fnV (K : Fr) (a : Addr) : FnV := match K.lookup a with
  | some ⟨_, _, .func fd, _⟩ => some (fd.name, fd.qualname, fd.params, fd.body, fd.scope, fd.globals, fd.closure.map (·.1), fd.defaults, fd.builtins)
  | _ => none
structure FnX where
  at_ : Fr → Addr
  name : Str
  qual : Str
  st : Stmt
  clo : List Str := []
def FnX.val (d : FnX) : FnV := some (d.name, d.qual, defArgs d.st, .stmts (defBody d.st), defScope d.st, mainGlobals, d.clo, .none, builtinsNs)
theorem fn_eq {K : Fr} {d : FnX} (e : fnV K (d.at_ K) = d.val) (hc : d.clo = []) : K.lookup (d.at_ K) = some ⟨(ob K (d.at_ K)).cls, (ob K (d.at_ K)).dict, .func (PySem.W.fnOf d.name d.qual (defArgs d.st) (defBody d.st) (defScope d.st) .none (fd K (d.at_ K)).kwdefaults (fd K (d.at_ K)).doc (fd K (d.at_ K)).pyModule (fd K (d.at_ K)).annotations (fd K (d.at_ K)).code (fd K (d.at_ K)).closureTuple), (ob K (d.at_ K)).slots⟩ := by
  generalize d.at_ K = a at *
  unfold fnV at e
  cases q : K.lookup a with
  | none => rw [q] at e; cases e
  | some o =>
    obtain ⟨oc, od, dt, osl⟩ := o
    rw [q] at e
    have eo : ob K a = ⟨oc, od, dt, osl⟩ := by unfold ob; rw [q]
    cases dt with
    | func f =>
      have ef : fd K a = f := by unfold fd; rw [eo]; rfl
      obtain ⟨n1, n2, n3, n4, n5, n6, n7, n8, n9, n10, n11, n12, n13, n14, n15⟩ := f
      have e2 : (some (n1, n2, n3, n4, n5, n6, n7.map (·.1), n8, n15) : FnV) = some (d.name, d.qual, defArgs d.st, .stmts (defBody d.st), defScope d.st, mainGlobals, d.clo, .none, builtinsNs) := e
      simp only [Option.some.injEq, Prod.mk.injEq] at e2
      obtain ⟨h1, h2, h3, h4, h5, h6, h7, h8, h9⟩ := e2
      rw [hc] at h7
      have h7 : n7 = [] := List.map_eq_nil_iff.mp h7
      subst h1 h2 h3 h4 h5 h6 h7 h8 h9
      rw [eo, ef]
    | _ => cases e
theorem at_ {l : List Bool} (h : l.all id = true) (i : Nat) {b : Bool} (e : l[i]? = some b := by rfl) : b = true := List.all_eq_true.mp h b (List.mem_of_getElem? e)
theorem dec {p : Prop} [Decidable p] {l : List Bool} (h : l.all id = true) (i : Nat) (e : l[i]? = some (decide p) := by rfl) : p := of_decide_eq_true (at_ h i e)
def cfEq : Option PySem.W.CFound → PySem.W.CFound → Bool
  | some (.val a), .val b => decide (a = b)
  | some (.get a b c d), .get a' b' c' d' => decide (a = a') && (decide (b = b') && (decide (c = c') && decide (d = d')))
  | _, _ => false
theorem cfEq_ok : ∀ {x : Option PySem.W.CFound} {y : PySem.W.CFound}, cfEq x y = true → x = some y
  | some (.val a), .val b, h => by rw [of_decide_eq_true (p := a = b) h]
  | some (.get a b c d), .get a' b' c' d', h => by
    obtain ⟨h1, h⟩ := He.ba (show (decide (a = a') && (decide (b = b') && (decide (c = c') && decide (d = d')))) = true from h)
    obtain ⟨h2, h⟩ := He.ba h
    obtain ⟨h3, h4⟩ := He.ba h
    rw [of_decide_eq_true h1, of_decide_eq_true h2, of_decide_eq_true h3, of_decide_eq_true h4]
  | none, _, h => by cases h
  | some (.val _), .get _ _ _ _, h => by cases h
  | some (.get _ _ _ _), .val _, h => by cases h
theorem cf {l : List Bool} (h : l.all id = true) (i : Nat) {x : Option PySem.W.CFound} {y : PySem.W.CFound} (e : l[i]? = some (cfEq x y) := by rfl) : x = some y := cfEq_ok (at_ h i e)
def noB (K : Fr) (a : Addr) : Bool := (K.lookup a).isNone
theorem no {l : List Bool} (h : l.all id = true) (i : Nat) {K : Fr} {a : Addr} (e : l[i]? = some (noB K a) := by rfl) : K.lookup a = none := Option.isNone_iff_eq_none.mp (at_ h i e)
def flB (K : Fr) (a : Addr) : Bool := match K.lookup a with
  | some ⟨_, _, .fields _, _⟩ => true
  | _ => false
theorem flB_ok {K : Fr} {a : Addr} (h : flB K a = true) : K.lookup a = some ⟨(ob K a).cls, (ob K a).dict, .fields (fl K a), (ob K a).slots⟩ := by
  unfold flB at h
  cases q : K.lookup a with
  | none => rw [q] at h; cases h
  | some o =>
    obtain ⟨oc, od, dt, osl⟩ := o
    rw [q] at h
    have eo : ob K a = ⟨oc, od, dt, osl⟩ := by unfold ob; rw [q]
    cases dt with
    | fields vs =>
      have ef : fl K a = vs := by unfold fl; rw [eo]; rfl
      rw [eo, ef]
    | _ => cases h
def coB (K : Fr) (a : Addr) : Bool := flB K a && decide ((ob K a).cls = .type "code")
theorem cod {l : List Bool} (h : l.all id = true) (i : Nat) {K : Fr} {a : Addr} (e : l[i]? = some (coB K a) := by rfl) : K.lookup a = some ⟨.type "code", (ob K a).dict, .fields (fl K a), (ob K a).slots⟩ := by
  obtain ⟨h1, h2⟩ := He.ba (at_ h i e)
  rw [← of_decide_eq_true h2]
  exact flB_ok h1
def xcB (K : Fr) (C : Addr) : Bool := match K.lookup C with
  | some ⟨.type t, _, .cls cd, sl⟩ => decide (t = "type") && (decide (cd.hasDict = true) && (decide (cd.hasDel = false) && ((match cd.mro with
    | v :: bm => decide (v = .ref C) && PySem.HandSPX.refsVE bm
    | [] => false) && (match sl.toList with
    | [_, _, _, _, some (.builtin n), _] => decide (n = "ValueError.__new__")
    | _ => false))))
  | _ => false
theorem xcl {l : List Bool} (h : l.all id = true) (i : Nat) {K : Fr} {C : Addr} (e : l[i]? = some (xcB K C) := by rfl) :
    ∃ (nm qn : Str) (N : Addr) (bs bm : List Value) (sn : List Str) (su : List Value) (ab : Bool) (co : Option Bool) (dd : Option Addr) (ka kb ke kf kg : Option Value), K.lookup C = some (excClassObj nm qn C N bs bm true sn su ab co dd ka kb ke kf kg "ValueError.__new__") ∧ PySem.HandSPX.refsVE bm = true := by
  have h := at_ h i e
  unfold xcB at h
  cases q : K.lookup C with
  | none => rw [q] at h; cases h
  | some o =>
    obtain ⟨oc, od, dt, osl⟩ := o
    rw [q] at h
    cases oc with
    | type t =>
      cases dt with
      | cls cd =>
        obtain ⟨c1, c2, c3, c4, c5, c6, c7, c8, c9, c10, c11⟩ := cd
        obtain ⟨h1, h⟩ := He.ba h
        obtain ⟨h2, h⟩ := He.ba h
        obtain ⟨h3, h⟩ := He.ba h
        obtain ⟨h4, h5⟩ := He.ba h
        have e1 : t = "type" := of_decide_eq_true h1
        have e2 : c6 = true := of_decide_eq_true h2
        have e3 : c11 = false := of_decide_eq_true h3
        clear h1 h2 h3
        dsimp only at h4 h5
        subst e1 e2 e3
        cases c3 with
        | nil => cases h4
        | cons v bm =>
          obtain ⟨h6, h7⟩ := He.ba h4
          have h6 := of_decide_eq_true h6
          subst h6
          obtain ⟨sl⟩ := osl
          dsimp only at h5
          have key : ∀ sl : List (Option Value), (match sl with
              | [_, _, _, _, some (.builtin n), _] => decide (n = "ValueError.__new__")
              | _ => false) = true → ∃ k0 k1 k2 k3 k5, sl = [k0, k1, k2, k3, some (.builtin "ValueError.__new__"), k5] := by
            intro sl h
            split at h
            · have h := of_decide_eq_true h
              subst h
              exact ⟨_, _, _, _, _, rfl⟩
            · cases h
          obtain ⟨k0, k1, k2, k3, k5, e⟩ := key sl h5
          subst e
          exact ⟨_, _, _, _, bm, _, _, _, _, _, k0, k1, k2, k3, k5, rfl, h7⟩
      | _ => cases h
    | _ => cases h
abbrev Al : Type := Bool × List FnV
def obs (chk : Fr → Bool) (fns : List FnX) (K : Fr) : Al := (chk K, fns.map fun d => fnV K (d.at_ K))
def val (fns : List FnX) : Al := (true, fns.map FnX.val)
def hook (n : Nat) (ls : Fr → List Addr) (chk : Fr → Bool) (fns : List FnX) : PySem.W.Hook where
  α := Al
  obs := fun s => obs chk fns (part n ls s.heap.get?)
  val := fun _ => val fns
  says := fun _ h => ∃ K : Fr, K.In h ∧ obs chk fns K = val fns
  of := fun _ _ e => ⟨_, part_in, e⟩
  keeps := fun _ _ _ ⟨K, hK, c⟩ k => ⟨K, PySem.W.Frag.In.keeps hK k, c⟩
def obT (n : Nat) (ls : Fr → List Addr) (chk : Fr → Bool) (fns : List FnX) (s : PySem.W.SharedT) : Al := withK n ls (HandSHeadRun.getT s) (obs chk fns)
theorem obT_eq {n : Nat} {ls : Fr → List Addr} {chk : Fr → Bool} {fns : List FnX} (s : PySem.W.SharedT) : obT n ls chk fns s = (hook n ls chk fns).obs s.abs := by
  unfold obT
  rw [withK_eq]
  have e : HandSHeadRun.getT s = s.abs.heap.get? := funext (HandSHeadRun.getT_eq s)
  rw [e]
  rfl
theorem obs_chk {chk : Fr → Bool} {fns : List FnX} {K : Fr} (e : obs chk fns K = val fns) : chk K = true := congrArg (fun z : Al => z.1) e
theorem obs_fn {chk : Fr → Bool} {fns : List FnX} {K : Fr} (e : obs chk fns K = val fns) (i : Nat) {d : FnX} (h : fns[i]? = some d := by rfl) : fnV K (d.at_ K) = d.val := by
  have e1 : fns.map (fun d => fnV K (d.at_ K)) = fns.map FnX.val := congrArg (fun z : Al => z.2) e
  have e2 : (fns.map fun d => fnV K (d.at_ K))[i]? = (fns.map FnX.val)[i]? := by rw [e1]
  rw [List.getElem?_map, List.getElem?_map, h] at e2
  exact Option.some.inj e2
end HD
namespace Law
open PySem PySem.Spec PyProof.Rows L2
def topX (i : Nat) : Stmt := PySem.Challenge.pw_wornbridges_k46_bytes_of_towns.main.body.getD i (.Pass ⟨0, 0, 0, 0⟩)
def h_C_Town (K : HD.Fr) : Addr := HD.glo K ("Town" : Str)
def h_C_InvalidTown (K : HD.Fr) : Addr := HD.glo K ("InvalidTown" : Str)
def h_C_InvalidCount (K : HD.Fr) : Addr := HD.glo K ("InvalidCount" : Str)
def h_C_InvalidData (K : HD.Fr) : Addr := HD.glo K ("InvalidData" : Str)
def h_C_TownReader (K : HD.Fr) : Addr := HD.glo K ("TownReader" : Str)
def h_C_BridgeError (K : HD.Fr) : Addr := HD.glo K ("BridgeError" : Str)
def h_f_law_start (K : HD.Fr) : Addr := HD.glo K ("_law_start" : Str)
def h_cd_law_start (K : HD.Fr) : Value := (HD.fd K (h_f_law_start K)).code
def h_f_law_drawn (K : HD.Fr) : Addr := HD.glo K ("_law_drawn" : Str)
def h_cd_law_drawn (K : HD.Fr) : Value := (HD.fd K (h_f_law_drawn K)).code
def h_f_law_bridges (K : HD.Fr) : Addr := HD.glo K ("_law_bridges" : Str)
def h_cd_law_bridges (K : HD.Fr) : Value := (HD.fd K (h_f_law_bridges K)).code
def h_f_law_groups (K : HD.Fr) : Addr := HD.glo K ("_law_groups" : Str)
def h_cd_law_groups (K : HD.Fr) : Value := (HD.fd K (h_f_law_groups K)).code
def h_f_law_body (K : HD.Fr) : Addr := HD.glo K ("_law_body" : Str)
def h_cd_law_body (K : HD.Fr) : Value := (HD.fd K (h_f_law_body K)).code
def h_f_Town_is_bridge (K : HD.Fr) : Addr := HD.rec_ K (HD.cP (HD.cls_ K (h_C_Town K) ("is_bridge" : Str))) "staticmethod" 0
def h_cd_Town_is_bridge (K : HD.Fr) : Value := (HD.fd K (h_f_Town_is_bridge K)).code
def h_f_Town__init (K : HD.Fr) : Addr := HD.mem K (h_C_Town K) ("__init__" : Str)
def h_cd_Town__init (K : HD.Fr) : Value := (HD.fd K (h_f_Town__init K)).code
def h_f_Town_bridges (K : HD.Fr) : Addr := HD.rec_ K (HD.mem K (h_C_Town K) ("bridges" : Str)) "property" 0
def h_cd_Town_bridges (K : HD.Fr) : Value := (HD.fd K (h_f_Town_bridges K)).code
def h_f_Town_place_count (K : HD.Fr) : Addr := HD.rec_ K (HD.mem K (h_C_Town K) ("place_count" : Str)) "property" 0
def h_cd_Town_place_count (K : HD.Fr) : Value := (HD.fd K (h_f_Town_place_count K)).code
def h_f_groups_of (K : HD.Fr) : Addr := HD.glo K ("groups_of" : Str)
def h_cd_groups_of (K : HD.Fr) : Value := (HD.fd K (h_f_groups_of K)).code
def h_f_checksum (K : HD.Fr) : Addr := HD.glo K ("checksum" : Str)
def h_cd_checksum (K : HD.Fr) : Value := (HD.fd K (h_f_checksum K)).code
def h_f_encode_town (K : HD.Fr) : Addr := HD.glo K ("encode_town" : Str)
def h_cd_encode_town (K : HD.Fr) : Value := (HD.fd K (h_f_encode_town K)).code
def h_f_unpack_bytes (K : HD.Fr) : Addr := HD.glo K ("unpack_bytes" : Str)
def h_cd_unpack_bytes (K : HD.Fr) : Value := (HD.fd K (h_f_unpack_bytes K)).code
def h_f_law_checksum (K : HD.Fr) : Addr := HD.glo K ("_law_checksum" : Str)
def h_cd_law_checksum (K : HD.Fr) : Value := (HD.fd K (h_f_law_checksum K)).code
def h_f_law_damaged (K : HD.Fr) : Addr := HD.glo K ("_law_damaged" : Str)
def h_cd_law_damaged (K : HD.Fr) : Value := (HD.fd K (h_f_law_damaged K)).code
def h_f_pack_bytes (K : HD.Fr) : Addr := HD.glo K ("pack_bytes" : Str)
def h_cd_pack_bytes (K : HD.Fr) : Value := (HD.fd K (h_f_pack_bytes K)).code
def h_f_law_get (K : HD.Fr) : Addr := HD.glo K ("_law_get" : Str)
def h_cd_law_get (K : HD.Fr) : Value := (HD.fd K (h_f_law_get K)).code
def h_f_law_fault (K : HD.Fr) : Addr := HD.glo K ("_law_fault" : Str)
def h_cd_law_fault (K : HD.Fr) : Value := (HD.fd K (h_f_law_fault K)).code
def h_f_law_read (K : HD.Fr) : Addr := HD.glo K ("_law_read" : Str)
def h_cd_law_read (K : HD.Fr) : Value := (HD.fd K (h_f_law_read K)).code
def h_f_law_outcome (K : HD.Fr) : Addr := HD.glo K ("_law_outcome" : Str)
def h_cd_law_outcome (K : HD.Fr) : Value := (HD.fd K (h_f_law_outcome K)).code
def h_f_TownReader_fail (K : HD.Fr) : Addr := HD.mem K (h_C_TownReader K) ("fail" : Str)
def h_cd_TownReader_fail (K : HD.Fr) : Value := (HD.fd K (h_f_TownReader_fail K)).code
def h_f_TownReader_read (K : HD.Fr) : Addr := HD.mem K (h_C_TownReader K) ("read" : Str)
def h_cd_TownReader_read (K : HD.Fr) : Value := (HD.fd K (h_f_TownReader_read K)).code
def h_f_TownReader_read_life (K : HD.Fr) : Addr := HD.mem K (h_C_TownReader K) ("read_life" : Str)
def h_cd_TownReader_read_life (K : HD.Fr) : Value := (HD.fd K (h_f_TownReader_read_life K)).code
def h_f_TownReader_read_bridge (K : HD.Fr) : Addr := HD.mem K (h_C_TownReader K) ("read_bridge" : Str)
def h_cd_TownReader_read_bridge (K : HD.Fr) : Value := (HD.fd K (h_f_TownReader_read_bridge K)).code
def h_f_TownReader_read_town (K : HD.Fr) : Addr := HD.mem K (h_C_TownReader K) ("read_town" : Str)
def h_cd_TownReader_read_town (K : HD.Fr) : Value := (HD.fd K (h_f_TownReader_read_town K)).code
def h_f_TownReader__init (K : HD.Fr) : Addr := HD.mem K (h_C_TownReader K) ("__init__" : Str)
def h_cd_TownReader__init (K : HD.Fr) : Value := (HD.fd K (h_f_TownReader__init K)).code
def h_f_decode_town (K : HD.Fr) : Addr := HD.glo K ("decode_town" : Str)
def h_cd_decode_town (K : HD.Fr) : Value := (HD.fd K (h_f_decode_town K)).code
def h_f_law (K : HD.Fr) : Addr := HD.glo K ("law" : Str)
def h_cd_law (K : HD.Fr) : Value := (HD.fd K (h_f_law K)).code
def h_f_InvalidTown__init (K : HD.Fr) : Addr := HD.mem K (h_C_InvalidTown K) ("__init__" : Str)
def h_cd_InvalidTown__init (K : HD.Fr) : Value := (HD.fd K (h_f_InvalidTown__init K)).code
def h_f_InvalidData__init (K : HD.Fr) : Addr := HD.mem K (h_C_InvalidData K) ("__init__" : Str)
def h_cd_InvalidData__init (K : HD.Fr) : Value := (HD.fd K (h_f_InvalidData__init K)).code
def h_w_Town_MAX_PLACES (K : HD.Fr) : Tok := HD.vTok (HD.cV (HD.cls_ K (h_C_Town K) ("MAX_PLACES" : Str)))
def h_w_Town_MAX_LIFE (K : HD.Fr) : Tok := HD.vTok (HD.cV (HD.cls_ K (h_C_Town K) ("MAX_LIFE" : Str)))
def h_w_Town_MAX_BRIDGES (K : HD.Fr) : Tok := HD.vTok (HD.cV (HD.cls_ K (h_C_Town K) ("MAX_BRIDGES" : Str)))
def h_p_Town_is_bridge (K : HD.Fr) : Addr := HD.cP (HD.cls_ K (h_C_Town K) ("is_bridge" : Str))
def h_rs_Town_is_bridge (K : HD.Fr) : List Value := (HD.lV (PySem.W.recIn K (h_p_Town_is_bridge K) "staticmethod")).drop 1
def h_a_Town_bridges (K : HD.Fr) : Addr := HD.mem K (h_C_Town K) ("bridges" : Str)
def h_rp_Town_bridges (K : HD.Fr) : List Value := (HD.lV (PySem.W.recIn K (h_a_Town_bridges K) "property")).drop 1
def h_a_Town_place_count (K : HD.Fr) : Addr := HD.mem K (h_C_Town K) ("place_count" : Str)
def h_rp_Town_place_count (K : HD.Fr) : List Value := (HD.lV (PySem.W.recIn K (h_a_Town_place_count K) "property")).drop 1
def h_t_MAX_LENGTH (K : HD.Fr) : Tok := HD.vTok (HD.oV (PySem.W.nsIn K mainGlobals ("MAX_LENGTH" : Str)))
def h_t_HEAD (K : HD.Fr) : Tok := HD.vTok (HD.oV (PySem.W.nsIn K mainGlobals ("HEAD" : Str)))
def h_t_GROUP (K : HD.Fr) : Tok := HD.vTok (HD.oV (PySem.W.nsIn K mainGlobals ("GROUP" : Str)))
def h_t_START (K : HD.Fr) : Tok := HD.vTok (HD.oV (PySem.W.nsIn K mainGlobals ("START" : Str)))
def h_t_FACTOR (K : HD.Fr) : Tok := HD.vTok (HD.oV (PySem.W.nsIn K mainGlobals ("FACTOR" : Str)))
def h_t_MODULUS (K : HD.Fr) : Tok := HD.vTok (HD.oV (PySem.W.nsIn K mainGlobals ("MODULUS" : Str)))
def h_t_BYTE (K : HD.Fr) : Tok := HD.vTok (HD.oV (PySem.W.nsIn K mainGlobals ("BYTE" : Str)))
def h_lc_law (K : HD.Fr) : Addr := HD.vAd (h_cd_law K)
def h_lvs_law (K : HD.Fr) : Array Value := HD.fl K (h_lc_law K)
def h_lP_law (K : HD.Fr) : Addr := HD.vAd ((h_lvs_law K).getD 11 .none)
def h_lfile_law (K : HD.Fr) : Str := HD.vStr ((h_lvs_law K).getD 18 .none)
def h_ltf_law (K : HD.Fr) : Tok := HD.vTok ((h_lvs_law K).getD 18 .none)
def h_lfl_law (K : HD.Fr) : Int := HD.vInt ((h_lvs_law K).getD 7 .none)
def h_ltg_law (K : HD.Fr) : Tok := HD.vTok ((h_lvs_law K).getD 7 .none)
def h_lin_law (K : HD.Fr) : Bool := HD.vBool ((h_lvs_law K).getD 9 .none)
def h_ltx_law (K : HD.Fr) : Int := HD.vInt ((h_lvs_law K).getD 10 .none)
def h_ltt_law (K : HD.Fr) : Tok := HD.vTok ((h_lvs_law K).getD 10 .none)
def fx_law_start : HD.FnX := ⟨h_f_law_start, ("_law_start" : Str), ("_law_start" : Str), topX 24, []⟩
def fx_law_drawn : HD.FnX := ⟨h_f_law_drawn, ("_law_drawn" : Str), ("_law_drawn" : Str), topX 25, []⟩
def fx_law_bridges : HD.FnX := ⟨h_f_law_bridges, ("_law_bridges" : Str), ("_law_bridges" : Str), topX 28, []⟩
def fx_law_groups : HD.FnX := ⟨h_f_law_groups, ("_law_groups" : Str), ("_law_groups" : Str), topX 30, []⟩
def fx_law_body : HD.FnX := ⟨h_f_law_body, ("_law_body" : Str), ("_law_body" : Str), topX 31, []⟩
def fx_Town_is_bridge : HD.FnX := ⟨h_f_Town_is_bridge, ("is_bridge" : Str), ("Town.is_bridge" : Str), inClass (topX 8) 4, []⟩
def fx_Town__init : HD.FnX := ⟨h_f_Town__init, ("__init__" : Str), ("Town.__init__" : Str), inClass (topX 8) 3, []⟩
def fx_Town_bridges : HD.FnX := ⟨h_f_Town_bridges, ("bridges" : Str), ("Town.bridges" : Str), inClass (topX 8) 7, []⟩
def fx_Town_place_count : HD.FnX := ⟨h_f_Town_place_count, ("place_count" : Str), ("Town.place_count" : Str), inClass (topX 8) 6, []⟩
def fx_groups_of : HD.FnX := ⟨h_f_groups_of, ("groups_of" : Str), ("groups_of" : Str), topX 19, []⟩
def fx_checksum : HD.FnX := ⟨h_f_checksum, ("checksum" : Str), ("checksum" : Str), topX 18, []⟩
def fx_encode_town : HD.FnX := ⟨h_f_encode_town, ("encode_town" : Str), ("encode_town" : Str), topX 20, []⟩
def fx_unpack_bytes : HD.FnX := ⟨h_f_unpack_bytes, ("unpack_bytes" : Str), ("unpack_bytes" : Str), topX 17, []⟩
def fx_law_checksum : HD.FnX := ⟨h_f_law_checksum, ("_law_checksum" : Str), ("_law_checksum" : Str), topX 29, []⟩
def fx_law_damaged : HD.FnX := ⟨h_f_law_damaged, ("_law_damaged" : Str), ("_law_damaged" : Str), topX 35, []⟩
def fx_pack_bytes : HD.FnX := ⟨h_f_pack_bytes, ("pack_bytes" : Str), ("pack_bytes" : Str), topX 16, []⟩
def fx_law_get : HD.FnX := ⟨h_f_law_get, ("_law_get" : Str), ("_law_get" : Str), topX 32, []⟩
def fx_law_fault : HD.FnX := ⟨h_f_law_fault, ("_law_fault" : Str), ("_law_fault" : Str), topX 33, []⟩
def fx_law_read : HD.FnX := ⟨h_f_law_read, ("_law_read" : Str), ("_law_read" : Str), topX 34, []⟩
def fx_law_outcome : HD.FnX := ⟨h_f_law_outcome, ("_law_outcome" : Str), ("_law_outcome" : Str), topX 27, []⟩
def fx_TownReader_fail : HD.FnX := ⟨h_f_TownReader_fail, ("fail" : Str), ("TownReader.fail" : Str), inClass (topX 21) 1, []⟩
def fx_TownReader_read : HD.FnX := ⟨h_f_TownReader_read, ("read" : Str), ("TownReader.read" : Str), inClass (topX 21) 2, []⟩
def fx_TownReader_read_life : HD.FnX := ⟨h_f_TownReader_read_life, ("read_life" : Str), ("TownReader.read_life" : Str), inClass (topX 21) 3, []⟩
def fx_TownReader_read_bridge : HD.FnX := ⟨h_f_TownReader_read_bridge, ("read_bridge" : Str), ("TownReader.read_bridge" : Str), inClass (topX 21) 4, []⟩
def fx_TownReader_read_town : HD.FnX := ⟨h_f_TownReader_read_town, ("read_town" : Str), ("TownReader.read_town" : Str), inClass (topX 21) 5, []⟩
def fx_TownReader__init : HD.FnX := ⟨h_f_TownReader__init, ("__init__" : Str), ("TownReader.__init__" : Str), inClass (topX 21) 0, []⟩
def fx_decode_town : HD.FnX := ⟨h_f_decode_town, ("decode_town" : Str), ("decode_town" : Str), topX 22, []⟩
def fx_law : HD.FnX := ⟨h_f_law, ("law" : Str), ("law" : Str), topX 36, []⟩
def fx_InvalidTown__init : HD.FnX := ⟨h_f_InvalidTown__init, ("__init__" : Str), ("InvalidTown.__init__" : Str), inClass (topX 3) 0, []⟩
def fx_InvalidData__init : HD.FnX := ⟨h_f_InvalidData__init, ("__init__" : Str), ("InvalidData.__init__" : Str), inClass (topX 5) 0, []⟩
def fns0 : List HD.FnX := [fx_law_start, fx_law_drawn, fx_law_bridges, fx_law_groups, fx_law_body, fx_Town_is_bridge, fx_Town__init, fx_Town_bridges, fx_Town_place_count, fx_groups_of, fx_checksum, fx_encode_town, fx_unpack_bytes, fx_law_checksum, fx_law_damaged, fx_pack_bytes, fx_law_get, fx_law_fault, fx_law_read, fx_law_outcome, fx_TownReader_fail, fx_TownReader_read, fx_TownReader_read_life, fx_TownReader_read_bridge, fx_TownReader_read_town, fx_TownReader__init, fx_decode_town, fx_law, fx_InvalidTown__init, fx_InvalidData__init]
def fnsX : List HD.FnX := fns0
def ck0 (K : HD.Fr) : List Bool := [decide (PySem.W.nsIn K mainGlobals ("Town" : Str) = some (some (.ref (h_C_Town K)))),
  decide (PySem.W.nsIn K mainGlobals ("InvalidTown" : Str) = some (some (.ref (h_C_InvalidTown K)))),
  decide (PySem.W.nsIn K mainGlobals ("InvalidCount" : Str) = some (some (.ref (h_C_InvalidCount K)))),
  decide (PySem.W.nsIn K mainGlobals ("InvalidData" : Str) = some (some (.ref (h_C_InvalidData K)))),
  decide (PySem.W.nsIn K mainGlobals ("TownReader" : Str) = some (some (.ref (h_C_TownReader K)))),
  decide (PySem.W.nsIn K mainGlobals ("BridgeError" : Str) = some (some (.ref (h_C_BridgeError K)))),
  decide (PySem.W.nsIn K mainGlobals ("_law_start" : Str) = some (some (.ref (h_f_law_start K)))),
  decide (PySem.W.codeIn K (h_cd_law_start K) ("_law_start" : Str) = true),
  decide (PySem.W.keepIn K (.ref (h_f_law_start K)) = true),
  decide (PySem.W.nsIn K mainGlobals ("_law_drawn" : Str) = some (some (.ref (h_f_law_drawn K)))),
  decide (PySem.W.codeIn K (h_cd_law_drawn K) ("_law_drawn" : Str) = true),
  decide (PySem.W.keepIn K (.ref (h_f_law_drawn K)) = true),
  decide (PySem.W.nsIn K mainGlobals ("_law_bridges" : Str) = some (some (.ref (h_f_law_bridges K)))),
  decide (PySem.W.codeIn K (h_cd_law_bridges K) ("_law_bridges" : Str) = true),
  decide (PySem.W.keepIn K (.ref (h_f_law_bridges K)) = true),
  decide (PySem.W.nsIn K mainGlobals ("_law_groups" : Str) = some (some (.ref (h_f_law_groups K)))),
  decide (PySem.W.codeIn K (h_cd_law_groups K) ("_law_groups" : Str) = true),
  decide (PySem.W.keepIn K (.ref (h_f_law_groups K)) = true),
  decide (PySem.W.nsIn K mainGlobals ("_law_body" : Str) = some (some (.ref (h_f_law_body K)))),
  decide (PySem.W.codeIn K (h_cd_law_body K) ("_law_body" : Str) = true),
  decide (PySem.W.keepIn K (.ref (h_f_law_body K)) = true),
  decide (PySem.W.codeIn K (h_cd_Town_is_bridge K) ("Town.is_bridge" : Str) = true),
  decide (PySem.W.keepIn K (.ref (h_f_Town_is_bridge K)) = true),
  decide (PySem.W.codeIn K (h_cd_Town__init K) ("Town.__init__" : Str) = true),
  decide (PySem.W.keepIn K (.ref (h_f_Town__init K)) = true),
  decide (PySem.W.isFn K (.ref (h_f_Town__init K)) = true),
  decide (PySem.W.codeIn K (h_cd_Town_bridges K) ("Town.bridges" : Str) = true),
  decide (PySem.W.keepIn K (.ref (h_f_Town_bridges K)) = true),
  decide (PySem.W.codeIn K (h_cd_Town_place_count K) ("Town.place_count" : Str) = true),
  decide (PySem.W.keepIn K (.ref (h_f_Town_place_count K)) = true)]
def ck1 (K : HD.Fr) : List Bool := [decide (PySem.W.nsIn K mainGlobals ("groups_of" : Str) = some (some (.ref (h_f_groups_of K)))),
  decide (PySem.W.codeIn K (h_cd_groups_of K) ("groups_of" : Str) = true),
  decide (PySem.W.keepIn K (.ref (h_f_groups_of K)) = true),
  decide (PySem.W.nsIn K mainGlobals ("checksum" : Str) = some (some (.ref (h_f_checksum K)))),
  decide (PySem.W.codeIn K (h_cd_checksum K) ("checksum" : Str) = true),
  decide (PySem.W.keepIn K (.ref (h_f_checksum K)) = true),
  decide (PySem.W.nsIn K mainGlobals ("encode_town" : Str) = some (some (.ref (h_f_encode_town K)))),
  decide (PySem.W.codeIn K (h_cd_encode_town K) ("encode_town" : Str) = true),
  decide (PySem.W.keepIn K (.ref (h_f_encode_town K)) = true),
  decide (PySem.W.nsIn K mainGlobals ("unpack_bytes" : Str) = some (some (.ref (h_f_unpack_bytes K)))),
  decide (PySem.W.codeIn K (h_cd_unpack_bytes K) ("unpack_bytes" : Str) = true),
  decide (PySem.W.keepIn K (.ref (h_f_unpack_bytes K)) = true),
  decide (PySem.W.nsIn K mainGlobals ("_law_checksum" : Str) = some (some (.ref (h_f_law_checksum K)))),
  decide (PySem.W.codeIn K (h_cd_law_checksum K) ("_law_checksum" : Str) = true),
  decide (PySem.W.keepIn K (.ref (h_f_law_checksum K)) = true),
  decide (PySem.W.nsIn K mainGlobals ("_law_damaged" : Str) = some (some (.ref (h_f_law_damaged K)))),
  decide (PySem.W.codeIn K (h_cd_law_damaged K) ("_law_damaged" : Str) = true),
  decide (PySem.W.keepIn K (.ref (h_f_law_damaged K)) = true),
  decide (PySem.W.nsIn K mainGlobals ("pack_bytes" : Str) = some (some (.ref (h_f_pack_bytes K)))),
  decide (PySem.W.codeIn K (h_cd_pack_bytes K) ("pack_bytes" : Str) = true),
  decide (PySem.W.keepIn K (.ref (h_f_pack_bytes K)) = true),
  decide (PySem.W.nsIn K mainGlobals ("_law_get" : Str) = some (some (.ref (h_f_law_get K)))),
  decide (PySem.W.codeIn K (h_cd_law_get K) ("_law_get" : Str) = true),
  decide (PySem.W.keepIn K (.ref (h_f_law_get K)) = true),
  decide (PySem.W.nsIn K mainGlobals ("_law_fault" : Str) = some (some (.ref (h_f_law_fault K)))),
  decide (PySem.W.codeIn K (h_cd_law_fault K) ("_law_fault" : Str) = true),
  decide (PySem.W.keepIn K (.ref (h_f_law_fault K)) = true),
  decide (PySem.W.nsIn K mainGlobals ("_law_read" : Str) = some (some (.ref (h_f_law_read K)))),
  decide (PySem.W.codeIn K (h_cd_law_read K) ("_law_read" : Str) = true),
  decide (PySem.W.keepIn K (.ref (h_f_law_read K)) = true)]
def ck2 (K : HD.Fr) : List Bool := [decide (PySem.W.nsIn K mainGlobals ("_law_outcome" : Str) = some (some (.ref (h_f_law_outcome K)))),
  decide (PySem.W.codeIn K (h_cd_law_outcome K) ("_law_outcome" : Str) = true),
  decide (PySem.W.keepIn K (.ref (h_f_law_outcome K)) = true),
  decide (PySem.W.codeIn K (h_cd_TownReader_fail K) ("TownReader.fail" : Str) = true),
  decide (PySem.W.keepIn K (.ref (h_f_TownReader_fail K)) = true),
  decide (PySem.W.codeIn K (h_cd_TownReader_read K) ("TownReader.read" : Str) = true),
  decide (PySem.W.keepIn K (.ref (h_f_TownReader_read K)) = true),
  decide (PySem.W.codeIn K (h_cd_TownReader_read_life K) ("TownReader.read_life" : Str) = true),
  decide (PySem.W.keepIn K (.ref (h_f_TownReader_read_life K)) = true),
  decide (PySem.W.codeIn K (h_cd_TownReader_read_bridge K) ("TownReader.read_bridge" : Str) = true),
  decide (PySem.W.keepIn K (.ref (h_f_TownReader_read_bridge K)) = true),
  decide (PySem.W.codeIn K (h_cd_TownReader_read_town K) ("TownReader.read_town" : Str) = true),
  decide (PySem.W.keepIn K (.ref (h_f_TownReader_read_town K)) = true),
  decide (PySem.W.codeIn K (h_cd_TownReader__init K) ("TownReader.__init__" : Str) = true),
  decide (PySem.W.keepIn K (.ref (h_f_TownReader__init K)) = true),
  decide (PySem.W.isFn K (.ref (h_f_TownReader__init K)) = true),
  decide (PySem.W.nsIn K mainGlobals ("decode_town" : Str) = some (some (.ref (h_f_decode_town K)))),
  decide (PySem.W.codeIn K (h_cd_decode_town K) ("decode_town" : Str) = true),
  decide (PySem.W.keepIn K (.ref (h_f_decode_town K)) = true),
  decide (PySem.W.nsIn K mainGlobals ("law" : Str) = some (some (.ref (h_f_law K)))),
  decide (PySem.W.codeIn K (h_cd_law K) ("law" : Str) = true),
  decide (PySem.W.keepIn K (.ref (h_f_law K)) = true),
  decide (PySem.W.readsIn K (h_C_Town K) (.type "type") = true),
  decide (PySem.W.specialIn K (.ref (h_C_Town K)) "__getattribute__" = some (some (.builtin "type.__getattribute__"))),
  decide (PySem.W.readsIn K (h_C_BridgeError K) (.type "type") = true),
  decide (PySem.W.specialIn K (.ref (h_C_BridgeError K)) "__getattribute__" = some (some (.builtin "type.__getattribute__"))),
  HD.cfEq (PySem.W.findCls K (.ref (h_C_Town K)) (.type "type") ("MAX_PLACES" : Str)) (.val (.int 12 (h_w_Town_MAX_PLACES K))),
  HD.cfEq (PySem.W.findCls K (.ref (h_C_Town K)) (.type "type") ("MAX_LIFE" : Str)) (.val (.int 1000000000000000000 (h_w_Town_MAX_LIFE K))),
  HD.cfEq (PySem.W.findCls K (.ref (h_C_Town K)) (.type "type") ("MAX_BRIDGES" : Str)) (.val (.int 24 (h_w_Town_MAX_BRIDGES K))),
  HD.cfEq (PySem.W.findCls K (.ref (h_C_Town K)) (.type "type") ("is_bridge" : Str)) (.get (.builtin "staticmethod.__get__") (.ref (h_p_Town_is_bridge K)) .none (.ref (h_C_Town K)))]
def ck3 (K : HD.Fr) : List Bool := [decide (PySem.W.recIn K (h_p_Town_is_bridge K) "staticmethod" = some (.ref (h_f_Town_is_bridge K) :: (h_rs_Town_is_bridge K))),
  decide (PySem.W.plainGet K (h_C_Town K) Str.empty = true),
  decide (PySem.W.hasDictIn K (h_C_Town K) = true),
  decide (PySem.W.plainOver K (h_C_Town K) = true),
  decide (PySem.W.findIn K (.ref (h_C_Town K)) "__setattr__" = some (some (.builtin "object.__setattr__"))),
  decide (PySem.W.makesIn K (h_C_Town K) = true),
  decide (PySem.W.keepIn K (.ref (h_C_Town K)) = true),
  decide (PySem.W.findIn K (.ref (h_C_Town K)) "__init__" = some (some (.ref (h_f_Town__init K)))),
  decide (PySem.W.plainGet K (h_C_TownReader K) Str.empty = true),
  decide (PySem.W.hasDictIn K (h_C_TownReader K) = true),
  decide (PySem.W.plainOver K (h_C_TownReader K) = true),
  decide (PySem.W.findIn K (.ref (h_C_TownReader K)) "__setattr__" = some (some (.builtin "object.__setattr__"))),
  decide (PySem.W.makesIn K (h_C_TownReader K) = true),
  decide (PySem.W.keepIn K (.ref (h_C_TownReader K)) = true),
  decide (PySem.W.findIn K (.ref (h_C_TownReader K)) "__init__" = some (some (.ref (h_f_TownReader__init K)))),
  decide (PySem.W.findIn K (.ref (h_C_Town K)) ("size" : Str) = some none),
  decide (PySem.W.findIn K (.ref (h_C_Town K)) ("links" : Str) = some none),
  decide (PySem.W.findIn K (.ref (h_C_InvalidData K)) ("offset" : Str) = some none),
  decide (PySem.W.findIn K (.ref (h_C_TownReader K)) ("octets" : Str) = some none),
  decide (PySem.W.findIn K (.ref (h_C_TownReader K)) ("cursor" : Str) = some none),
  decide (PySem.W.findIn K (.ref (h_C_InvalidTown K)) ("part" : Str) = some none),
  decide (PySem.W.findIn K (.ref (h_C_InvalidTown K)) ("index" : Str) = some none),
  decide (PySem.W.findIn K (.ref (h_C_InvalidData K)) "__getattribute__" = some (some (.builtin "BaseException.__getattribute__"))),
  decide (PySem.W.findIn K (.ref (h_C_InvalidData K)) "__getattr__" = some none),
  decide (PySem.W.findIn K (.ref (h_C_InvalidCount K)) "__getattribute__" = some (some (.builtin "BaseException.__getattribute__"))),
  decide (PySem.W.findIn K (.ref (h_C_InvalidCount K)) "__getattr__" = some none),
  decide (PySem.W.findIn K (.ref (h_C_InvalidTown K)) "__getattribute__" = some (some (.builtin "BaseException.__getattribute__"))),
  decide (PySem.W.findIn K (.ref (h_C_InvalidTown K)) "__getattr__" = some none),
  decide (PySem.W.subIn K (.ref (h_C_InvalidData K)) (.type "BaseException") = some true),
  decide (PySem.W.hasDictIn K (h_C_InvalidData K) = true)]
def ck4 (K : HD.Fr) : List Bool := [decide (PySem.W.typeIn K (.ref (h_C_InvalidData K)) = some (.type "type")),
  decide (PySem.W.subIn K (.ref (h_C_InvalidCount K)) (.type "BaseException") = some true),
  decide (PySem.W.hasDictIn K (h_C_InvalidCount K) = true),
  decide (PySem.W.typeIn K (.ref (h_C_InvalidCount K)) = some (.type "type")),
  decide (PySem.W.subIn K (.ref (h_C_InvalidTown K)) (.type "BaseException") = some true),
  decide (PySem.W.hasDictIn K (h_C_InvalidTown K) = true),
  decide (PySem.W.typeIn K (.ref (h_C_InvalidTown K)) = some (.type "type")),
  decide (PySem.W.findIn K (.ref (h_C_Town K)) ("bridges" : Str) = some (some (.ref (h_a_Town_bridges K)))),
  decide (PySem.W.specialIn K (.ref (h_a_Town_bridges K)) "__get__" = some (some (.builtin "property.__get__"))),
  decide (PySem.W.takesIn K (.ref (h_a_Town_bridges K)) = some true),
  decide (PySem.W.recIn K (h_a_Town_bridges K) "property" = some (.ref (h_f_Town_bridges K) :: (h_rp_Town_bridges K))),
  decide (PySem.W.findIn K (.ref (h_C_Town K)) ("place_count" : Str) = some (some (.ref (h_a_Town_place_count K)))),
  decide (PySem.W.specialIn K (.ref (h_a_Town_place_count K)) "__get__" = some (some (.builtin "property.__get__"))),
  decide (PySem.W.takesIn K (.ref (h_a_Town_place_count K)) = some true),
  decide (PySem.W.recIn K (h_a_Town_place_count K) "property" = some (.ref (h_f_Town_place_count K) :: (h_rp_Town_place_count K))),
  decide (PySem.W.findIn K (.ref (h_C_TownReader K)) ("fail" : Str) = some (some (.ref (h_f_TownReader_fail K)))),
  decide (PySem.W.isFn K (.ref (h_f_TownReader_fail K)) = true),
  decide (PySem.W.findIn K (.ref (h_C_TownReader K)) ("read" : Str) = some (some (.ref (h_f_TownReader_read K)))),
  decide (PySem.W.isFn K (.ref (h_f_TownReader_read K)) = true),
  decide (PySem.W.findIn K (.ref (h_C_TownReader K)) ("read_life" : Str) = some (some (.ref (h_f_TownReader_read_life K)))),
  decide (PySem.W.isFn K (.ref (h_f_TownReader_read_life K)) = true),
  decide (PySem.W.findIn K (.ref (h_C_TownReader K)) ("read_bridge" : Str) = some (some (.ref (h_f_TownReader_read_bridge K)))),
  decide (PySem.W.isFn K (.ref (h_f_TownReader_read_bridge K)) = true),
  decide (PySem.W.findIn K (.ref (h_C_TownReader K)) ("read_town" : Str) = some (some (.ref (h_f_TownReader_read_town K)))),
  decide (PySem.W.isFn K (.ref (h_f_TownReader_read_town K)) = true),
  decide ((h_C_InvalidData K) ≠ (h_C_InvalidCount K)),
  decide (PySem.W.nsIn K mainGlobals ("MAX_LENGTH" : Str) = some (some (.int 99 (h_t_MAX_LENGTH K)))),
  decide (PySem.W.nsIn K mainGlobals ("HEAD" : Str) = some (some (.int 84 (h_t_HEAD K)))),
  decide (PySem.W.nsIn K mainGlobals ("GROUP" : Str) = some (some (.int 128 (h_t_GROUP K)))),
  decide (PySem.W.nsIn K mainGlobals ("START" : Str) = some (some (.int 5 (h_t_START K))))]
def ck5 (K : HD.Fr) : List Bool := [decide (PySem.W.nsIn K mainGlobals ("FACTOR" : Str) = some (some (.int 41 (h_t_FACTOR K)))),
  decide (PySem.W.nsIn K mainGlobals ("MODULUS" : Str) = some (some (.int 65521 (h_t_MODULUS K)))),
  decide (PySem.W.nsIn K mainGlobals ("BYTE" : Str) = some (some (.int 256 (h_t_BYTE K)))),
  decide (PySem.W.nsIn K mainGlobals ("range" : Str) = some none),
  decide (PySem.W.nsIn K mainGlobals ("int" : Str) = some none),
  decide (PySem.W.nsIn K mainGlobals ("len" : Str) = some none),
  decide (PySem.W.nsIn K mainGlobals ("tuple" : Str) = some none),
  decide (PySem.W.nsIn K mainGlobals ("enumerate" : Str) = some none),
  decide (PySem.W.nsIn K mainGlobals ("list" : Str) = some none),
  decide (PySem.W.nsIn K mainGlobals ("bytes" : Str) = some none),
  decide (PySem.W.nsIn K mainGlobals ("all" : Str) = some none),
  decide (PySem.W.nsIn K mainGlobals ("isinstance" : Str) = some none),
  HD.cfEq (PySem.W.findCls K (.ref (h_C_BridgeError K)) (.type "type") "__init__") (.val (.builtin "ValueError.__init__")),
  decide (PySem.W.keepIn K (.ref (h_C_InvalidTown K)) = true),
  decide (PySem.W.codeIn K (h_cd_InvalidTown__init K) ("InvalidTown.__init__" : Str) = true),
  decide (PySem.W.keepIn K (.ref (h_f_InvalidTown__init K)) = true),
  decide (PySem.W.findIn K (.ref (h_C_InvalidTown K)) "__init__" = some (some (.ref (h_f_InvalidTown__init K)))),
  decide (PySem.W.typeIn K (.ref (h_f_InvalidTown__init K)) = some (.type "function")),
  decide (PySem.W.findIn K (.ref (h_C_InvalidTown K)) "__setattr__" = some (some (.builtin "object.__setattr__"))),
  HD.xcB K (h_C_InvalidTown K),
  decide (PySem.W.keepIn K (.ref (h_C_InvalidCount K)) = true),
  decide (PySem.W.excIn K (h_C_InvalidCount K) PySem.HandSPX.veTail "ValueError.__new__" = true),
  decide (PySem.W.keepIn K (.ref (h_C_InvalidData K)) = true),
  decide (PySem.W.codeIn K (h_cd_InvalidData__init K) ("InvalidData.__init__" : Str) = true),
  decide (PySem.W.keepIn K (.ref (h_f_InvalidData__init K)) = true),
  decide (PySem.W.findIn K (.ref (h_C_InvalidData K)) "__init__" = some (some (.ref (h_f_InvalidData__init K)))),
  decide (PySem.W.typeIn K (.ref (h_f_InvalidData__init K)) = some (.type "function")),
  decide (PySem.W.findIn K (.ref (h_C_InvalidData K)) "__setattr__" = some (some (.builtin "object.__setattr__"))),
  HD.xcB K (h_C_InvalidData K),
  decide (PySem.W.findIn K (.ref (h_C_InvalidCount K)) "__class__" = some (some (.builtin "object.__class__")))]
def ck6 (K : HD.Fr) : List Bool := [decide (PySem.W.mroIn K (h_C_InvalidCount K) (.type "object") = some true),
  decide (PySem.W.subIn K (.ref (h_C_InvalidCount K)) (.ref (h_C_InvalidCount K)) = some true),
  decide (PySem.W.subIn K (.ref (h_C_InvalidCount K)) (.ref (h_C_InvalidData K)) = some false),
  decide (PySem.W.findIn K (.ref (h_C_InvalidData K)) "__class__" = some (some (.builtin "object.__class__"))),
  decide (PySem.W.mroIn K (h_C_InvalidData K) (.type "object") = some true),
  decide (PySem.W.subIn K (.ref (h_C_InvalidData K)) (.ref (h_C_InvalidData K)) = some true),
  decide (PySem.W.subIn K (.ref (h_C_InvalidData K)) (.ref (h_C_InvalidCount K)) = some false),
  decide (PySem.W.findIn K (.ref (h_C_InvalidTown K)) "__class__" = some (some (.builtin "object.__class__"))),
  decide (PySem.W.mroIn K (h_C_InvalidTown K) (.type "object") = some true),
  decide (PySem.W.subIn K (.ref (h_C_InvalidTown K)) (.ref (h_C_InvalidTown K)) = some true),
  decide (PySem.W.subIn K (.ref (h_C_InvalidTown K)) (.ref (h_C_InvalidCount K)) = some false),
  decide (PySem.W.subIn K (.ref (h_C_InvalidTown K)) (.ref (h_C_InvalidData K)) = some false),
  decide (PySem.W.findIn K (.ref (h_C_Town K)) "__class__" = some (some (.builtin "object.__class__"))),
  decide (PySem.W.mroIn K (h_C_Town K) (.type "object") = some true),
  decide (PySem.W.subIn K (.ref (h_C_Town K)) (.type "tuple") = some false),
  decide (PySem.W.specialIn K (.builtin "object.__class__") "__get__" = some (some (.builtin "getset_descriptor.__get__"))),
  decide (PySem.W.takesIn K (.builtin "object.__class__") = some true),
  decide ((h_cd_law K) = .ref (h_lc_law K)),
  HD.coB K (h_lc_law K),
  decide ((h_lvs_law K)[11]? = some (.ref (h_lP_law K))),
  decide ((h_lvs_law K).getD 11 .none = .ref (h_lP_law K)),
  decide ((h_lvs_law K).getD 18 .none = .str (h_lfile_law K) (h_ltf_law K)),
  decide ((h_lvs_law K).getD 7 .none = .int (h_lfl_law K) (h_ltg_law K)),
  decide ((h_lvs_law K).getD 9 .none = .bool (h_lin_law K)),
  decide ((h_lvs_law K).getD 10 .none = .int (h_ltx_law K) (h_ltt_law K)),
  HD.noB K (h_lP_law K)]
def chkX (K : HD.Fr) : Bool := (ck0 K).all id && ((ck1 K).all id && ((ck2 K).all id && ((ck3 K).all id && ((ck4 K).all id && ((ck5 K).all id && ((ck6 K).all id && (true)))))))
def lamsX (K : HD.Fr) : List Addr := [(h_f_law K)]
abbrev hkX : PySem.W.Hook := HD.hook 6 lamsX chkX fnsX
def obX : PySem.W.SharedT → HD.Al := HD.obT 6 lamsX chkX fnsX
abbrev RX : PySem.W.OpenRow := PySem.W.OpenLaw.row PySem.Challenge.rw_wornbridges_k46_bytes_of_towns
def loose0 : List PySem.Str := ["_wall", "__name__", "BridgeError", "InvalidTown", "InvalidCount", "InvalidData", "MAX_LENGTH", "Town", "HEAD", "GROUP", "BYTE", "START", "FACTOR", "MODULUS", "pack_bytes", "unpack_bytes", "checksum", "groups_of", "encode_town", "TownReader", "decode_town", "_law_start", "_law_drawn", "_law_same", "_law_outcome", "_law_bridges", "_law_checksum", "_law_groups", "_law_body", "_law_get"]
def loose1 : List PySem.Str := ["_law_fault", "_law_read", "_law_damaged"]
def looseX : List PySem.Str := loose0 ++ loose1
set_option maxHeartbeats 0 in
theorem runX (w : World) : HandSHeadRun.RunEq RX (PySem.W.view RX.prog [36]) hkX obX 40000 looseX w := by
  intro os
  kernel_rfl
end Law
set_option Elab.async false
set_option linter.all false
namespace CL
open PySem
abbrev Key := Sum Int Str
inductive D where
  | non | bl (b : Bool) | int (i : Int) | str (s : Str) | byt (b : Array UInt8)
  | tup (xs : List D) | lst (xs : List D) | scr (ns : List Int)
  | dct (ks : List Key) (xs : List D)
  | obj (C : Addr) (ns : List Str) (xs : List D)
  | ptr (i : Nat) | ref (a : Addr) | ty (n : String)
  deriving Inhabited
/-- what stands in the store -/
inductive MO where
  | lst (xs : List D)
  | dct (ks : List Key) (xs : List D)
  | ins (C : Addr) (ns : List Str) (xs : List D)
  /-- a dict while it is walked -/
  | lk (ks : List Key) (xs : List D)
  /-- a lambda -/
  | fn (id : Nat)
abbrev Store := List MO
structure Exn where
  cls : Addr
  ns : List Str
  xs : List D
/-- a name's slot: nothing, a value, a list of its own, a dict of its own, the exception in hand -/
inductive SV where
  | u | d (x : D) | l (xs : List D) | m (ks : List Key) (xs : List D) | x (e : Exn) | f
abbrev Sl := List SV
inductive R (α : Type) where
  | ok (a : α) (S : Store) | exc (x : Exn) (S : Store) | bad
@[simp] def R.bind {α β : Type} (r : R α) (f : α → Store → R β) : R β := match r with
  | .ok a S => f a S
  | .exc x S => .exc x S
  | .bad => .bad
abbrev C (α : Type) := Sl → Store → R α
abbrev CE := C D
abbrev CT := C Bool
abbrev CA := C (List D)
/-- how a block ends -/
inductive O where
  | nx (s : Sl) (S : Store) | rt (d : D) (S : Store) | bk (s : Sl) (S : Store) | ct (s : Sl) (S : Store) | exc (x : Exn) (s : Sl) (S : Store) | bad
abbrev CS := Sl → Store → O
/-- a def on data -/
abbrev G := List D → Store → R D
def slotD (v : Option SV) (S : Store) : R D := match v with
  | some (.d x) => .ok x S
  | _ => .bad
def cVar (i : Nat) : CE := fun s S => slotD s[i]? S
def cK (x : D) : CE := fun _ S => .ok x S
def c1 (f : D → Store → R D) (a : CE) : CE := fun s S => (a s S).bind f
def c2 (f : D → D → Store → R D) (a b : CE) : CE := fun s S => (a s S).bind fun x S1 => (b s S1).bind fun y S2 => f x y S2
def aNil : CA := fun _ S => .ok [] S
def aCons (a : CE) (r : CA) : CA := fun s S => (a s S).bind fun x S1 => (r s S1).bind fun xs S2 => .ok (x :: xs) S2
/-- a call of something known on values -/
def cApp (f : List D → Store → R D) (a : CA) : CE := fun s S => (a s S).bind f
def cTup (a : CA) : CE := fun s S => (a s S).bind fun xs S1 => if xs.length ≤ 16777216 then .ok (.tup xs) S1 else .bad
def cLst (a : CA) : CE := fun s S => (a s S).bind fun xs S1 => if xs.length ≤ 16777216 then .ok (.lst xs) S1 else .bad
def tB (a : CE) : CT := fun s S => (a s S).bind fun x S1 => match x with
  | .bl b => .ok b S1
  | _ => .bad
def tNot (a : CT) : CT := fun s S => (a s S).bind fun b S1 => .ok (!b) S1
def tAnd (a b : CT) : CT := fun s S => (a s S).bind fun x S1 => if x then b s S1 else .ok false S1
def tOr (a b : CT) : CT := fun s S => (a s S).bind fun x S1 => if x then .ok true S1 else b s S1
def cIf (t : CT) (a b : CE) : CE := fun s S => (t s S).bind fun x S1 => if x then a s S1 else b s S1
/-- and, or as values; all but the last are truth values -/
def cAnd (a b : CE) : CE := fun s S => (a s S).bind fun x S1 => match x with
  | .bl c => if c then b s S1 else .ok (.bl false) S1
  | _ => .bad
def cOr (a b : CE) : CE := fun s S => (a s S).bind fun x S1 => match x with
  | .bl c => if c then .ok (.bl true) S1 else b s S1
  | _ => .bad
def cNot (a : CE) : CE := fun s S => (a s S).bind fun x S1 => match x with
  | .bl c => .ok (.bl (!c)) S1
  | _ => .bad
/-- a p b q c -/
def cChain (f g : D → D → Store → R D) (a b c : CE) : CE := fun s S => (a s S).bind fun x S1 => (b s S1).bind fun y S2 => (f x y S2).bind fun z S3 => match z with
  | .bl k => if k then (c s S3).bind fun w S4 => g y w S4 else .ok (.bl false) S3
  | _ => .bad
def oAdd : D → D → Store → R D
  | .int i, .int j, S => .ok (.int (i + j)) S
  | .str x, .str y, S => if x.length + y.length ≤ 16777216 then .ok (.str (x ++ y)) S else .bad
  | .tup xs, .tup ys, S => if xs.length + ys.length ≤ 16777216 then .ok (.tup (xs ++ ys)) S else .bad
  | .lst xs, .lst ys, S => if xs.length + ys.length ≤ 16777216 then .ok (.lst (xs ++ ys)) S else .bad
  | .ptr i, .lst ys, S => match S[i]? with
    | some (.lst xs) => if xs.length + ys.length ≤ 16777216 then .ok (.lst (xs ++ ys)) S else .bad
    | _ => .bad
  | _, _, _ => .bad
def oSub : D → D → Store → R D
  | .int i, .int j, S => .ok (.int (i - j)) S
  | _, _, _ => .bad
/-- one factor below 2 ^ 64 -/
def smallI (i : Int) : Bool := decide (-(2 ^ 64) < i) && decide (i < 2 ^ 64)
def oMul : D → D → Store → R D
  | .int i, .int j, S => if smallI i || smallI j then .ok (.int (i * j)) S else .bad
  | .tup xs, .int k, S => if xs ≠ [] ∧ 2 ≤ k ∧ k ≤ 1000 ∧ xs.length ≤ 1000 then .ok (.tup (List.replicate k.toNat xs).flatten) S else .bad
  | .lst xs, .int k, S => if -(2 ^ 63) ≤ k ∧ k < 2 ^ 63 ∧ xs.length * k.toNat ≤ 16777216 then .ok (.lst (List.replicate k.toNat xs).flatten) S else .bad
  | _, _, _ => .bad
def oMod : D → D → Store → R D
  | .int i, .int j, S => if 0 < j then .ok (.int (i % j)) S else .bad
  | _, _, _ => .bad
def oDiv : D → D → Store → R D
  | .int i, .int j, S => if 0 < j ∧ j.natAbs.log2 < 9000 then .ok (.int (i / j)) S else .bad
  | _, _, _ => .bad
def oPow : D → D → Store → R D
  | .int i, .int j, S => if 0 ≤ j ∧ j ≤ 1000000 ∧ i.natAbs < 2 ^ 64 then .ok (.int (i ^ j.toNat)) S else .bad
  | _, _, _ => .bad
def oCmp (p : Int → Int → Bool) : D → D → Store → R D
  | .int i, .int j, S => .ok (.bl (p i j)) S
  | _, _, _ => .bad
def oLt := oCmp fun i j => decide (i < j)
def oLe := oCmp fun i j => decide (i ≤ j)
def oGt := oCmp fun i j => decide (j < i)
def oGe := oCmp fun i j => decide (j ≤ i)
def isNon : D → Bool
  | .non => true
  | _ => false
def oIsN : D → Store → R D := fun x S => .ok (.bl (isNon x)) S
def oNotN : D → Store → R D := fun x S => .ok (.bl (!isNon x)) S
def xIsN : D → D → Store → R D := fun x y S => match y with
  | .non => oIsN x S
  | _ => .bad
def xNotN : D → D → Store → R D := fun x y S => match y with
  | .non => oNotN x S
  | _ => .bad
mutual
def toPy : D → Option PyData
  | .non => some .none
  | .bl b => some (.bool b)
  | .int i => some (.int i)
  | .str s => some (.str s)
  | .tup xs => (toPys xs).map .tuple
  | .lst xs => (toPys xs).map .list
  | .byt _ => none
  | .scr _ => none
  | .dct _ _ => none
  | .obj _ _ _ => none
  | .ptr _ => none
  | .ref _ => none
  | .ty _ => none
def toPys : List D → Option (List PyData)
  | [] => some []
  | x :: xs => match toPy x, toPys xs with
    | some d, some ds => some (d :: ds)
    | _, _ => none
end
/-- what stands behind a pointer to a list, as data -/
def look (S : Store) : D → D
  | .ptr i => match S[i]? with
    | some (.lst xs) => .lst xs
    | _ => .ptr i
  | x => x
def oEq (neg : Bool) : D → D → Store → R D := fun x y S => match toPy (look S x), toPy (look S y) with
  | some d, some e => if SeqAt.shaped d && SeqAt.shaped e then .ok (.bl (if neg then !PyData.eqv d e else PyData.eqv d e)) S else .bad
  | _, _ => .bad
/-- the items of a tuple, a list, the script -/
def itemsOf (S : Store) : D → Option (List D)
  | .tup xs => some xs
  | .lst xs => some xs
  | .scr ns => some (ns.map D.int)
  | .ptr i => match S[i]? with
    | some (.lst xs) => some xs
    | _ => none
  | _ => none
def oIx : D → D → Store → R D := fun x y S => match itemsOf S x, y with
  | some xs, .int i => match L2.atI xs i with
    | some v => .ok v S
    | none => .bad
  | _, _ => .bad
/-- t[a:b], a tuple, a list, a text; a part may lack -/
def cutL (xs : List D) (lo hi : Option Int) : List D := (xs.drop (HT.sIx xs.length 0 lo)).take (HT.sIx xs.length xs.length hi - HT.sIx xs.length 0 lo)
def oCut (x : D) (lo hi : Option Int) (S : Store) : R D := match x with
  | .tup xs => .ok (.tup (cutL xs lo hi)) S
  | .lst xs => .ok (.lst (cutL xs lo hi)) S
  | .str z => if z.length ≤ 16777216 then .ok (.str (L2.cutS z lo hi)) S else .bad
  | .ptr i => match S[i]? with
    | some (.lst xs) => .ok (.lst (cutL xs lo hi)) S
    | _ => .bad
  | _ => .bad
abbrev CO := C (Option Int)
def oNone : CO := fun _ S => .ok none S
def oSome (a : CE) : CO := fun s S => (a s S).bind fun x S1 => match x with
  | .int i => .ok (some i) S1
  | _ => .bad
def cCut (a : CE) (lo hi : CO) : CE := fun s S => (a s S).bind fun x S1 => (lo s S1).bind fun l S2 => (hi s S2).bind fun h S3 => oCut x l h S3
def bLen : List D → Store → R D := fun vs S => match vs with
  | [.str z] => if z.length ≤ 16777216 then .ok (.int z.length) S else .bad
  | [.byt b] => if b.size ≤ 16777216 then .ok (.int b.size) S else .bad
  | [x] => match itemsOf S x with
    | some xs => .ok (.int xs.length) S
    | none => .bad
  | _ => .bad
def bInt : List D → Store → R D := fun vs S => match vs with
  | [.int i] => .ok (.int i) S
  | [.bl b] => .ok (.int (if b then 1 else 0)) S
  | _ => .bad
def bList : List D → Store → R D := fun vs S => match vs with
  | [x] => match itemsOf S x with
    | some xs => .ok (.lst xs) S
    | none => .bad
  | _ => .bad
def bTuple : List D → Store → R D := fun vs S => match vs with
  | [.tup xs] => .ok (.tup xs) S
  | [.lst xs] => .ok (.tup xs) S
  | [.scr ns] => .ok (.tup (ns.map D.int)) S
  | [.ptr i] => match S[i]? with
    | some (.lst xs) => .ok (.tup xs) S
    | _ => .bad
  | _ => .bad
def intsOf : List D → Option (List Int)
  | [] => some []
  | .int i :: xs => (intsOf xs).map (i :: ·)
  | _ :: _ => none
/-- the built-in type of a datum -/
def tyOf (S : Store) : D → Option String
  | .non => some "NoneType"
  | .bl _ => some "bool"
  | .int _ => some "int"
  | .str _ => some "str"
  | .byt _ => some "bytes"
  | .tup _ => some "tuple"
  | .lst _ => some "list"
  | .scr _ => some "list"
  | .dct _ _ => some "dict"
  | .ptr i => match S[i]? with
    | some (.lst _) => some "list"
    | some (.dct _ _) => some "dict"
    | _ => none
  | _ => none
/-- isinstance(x, T), T a built-in type or a tuple of such -/
def bIsi : List D → Store → R D := fun vs S => match vs with
  | [x, .ty t] => match (tyOf S x).bind fun a => L2.kitB a t with
    | some b => .ok (.bl b) S
    | none => .bad
  | [x, .tup ts] => match tyOf S x with
    | some a => match kits a ts with
      | some b => .ok (.bl b) S
      | none => .bad
    | none => .bad
  | _ => .bad
where
  kits (a : String) : List D → Option Bool
    | [] => some false
    | .ty t :: ts => match L2.kitB a t, kits a ts with
      | some b, some c => some (b || c)
      | _, _ => none
    | _ => none
def cCall (g : G) (a : CA) : CE := cApp g a
/-- the def's body run on its arguments -/
def run (n : Nat) (b : CS) : G := fun ds S => match b (ds.map SV.d ++ List.replicate (n - ds.length) SV.u) S with
  | .nx _ S' => .ok .non S'
  | .rt d S' => .ok d S'
  | .exc x _ S' => .exc x S'
  | _ => .bad
/-- an attribute of an instance -/
def fieldOf (S : Store) (x : D) (f : Str) : Option D := match x with
  | .obj _ ns xs => (ns.zip xs).lookup f
  | .ptr i => match S[i]? with
    | some (.ins _ ns xs) => (ns.zip xs).lookup f
    | _ => none
  | _ => none
/-- its class, its attributes' names -/
def classOf (S : Store) (x : D) : Option (Addr × List Str) := match x with
  | .obj C ns _ => some (C, ns)
  | .ptr i => match S[i]? with
    | some (.ins C ns _) => some (C, ns)
    | _ => none
  | _ => none
def cFld (C : Addr) (f : Str) (a : CE) : CE := fun s S => (a s S).bind fun x S1 => match classOf S1 x, fieldOf S1 x f with
  | some (C', _), some v => if C' = C then .ok v S1 else .bad
  | _, _ => .bad
/-- o.m(..), m a method of the class at C -/
def cMeth (C : Addr) (m : Str) (g : G) (o : CE) (a : CA) : CE := fun s S => (o s S).bind fun x S1 => match classOf S1 x with
  | some (C', ns) => if C' = C ∧ m ∉ ns then (a s S1).bind fun xs S2 => g (x :: xs) S2 else .bad
  | none => .bad
/-- o.p, p a property -/
def cProp (C : Addr) (g : G) (o : CE) : CE := fun s S => (o s S).bind fun x S1 => match classOf S1 x with
  | some (C', _) => if C' = C then g [x] S1 else .bad
  | none => .bad
/-- C(..): a new object of the store, made by g; it stays there -/
def cMake (C : Addr) (g : G) (a : CA) : CE := fun s S => (a s S).bind fun xs S1 => (g (.ptr S1.length :: xs) (S1 ++ [.ins C [] []])).bind fun r S2 => match r with
  | .non => .ok (.ptr S1.length) S2
  | _ => .bad
def oDo {α : Type} (r : R α) (z : Sl) (f : α → Store → O) : O := match r with
  | .ok a S => f a S
  | .exc x S => .exc x z S
  | .bad => .bad
def sNil : CS := fun z S => .nx z S
def sSeq (a b : CS) : CS := fun z S => match a z S with
  | .nx z' S' => b z' S'
  | o => o
def sSet (i : Nat) (c : CE) : CS := fun z S => oDo (c z S) z fun d S' => .nx (z.set i (.d d)) S'
def sExpr (c : CE) : CS := fun z S => oDo (c z S) z fun _ S' => .nx z S'
def sRet (c : CE) : CS := fun z S => oDo (c z S) z fun d S' => .rt d S'
def sIf (t : CT) (a b : CS) : CS := fun z S => oDo (t z S) z fun c S' => if c then a z S' else b z S'
/-- a target: a name, a tuple of targets -/
abbrev Tg := D → Sl → Option Sl
abbrev Tgs := List D → Sl → Option Sl
def gN (i : Nat) : Tg := fun d z => some (z.set i (.d d))
def gNil : Tgs := fun ds z => match ds with
  | [] => some z
  | _ => none
def gCons (g : Tg) (r : Tgs) : Tgs := fun ds z => match ds with
  | d :: ds => (g d z).bind (r ds)
  | [] => none
def gTup (n : Nat) (g : Tgs) : Tg := fun d z => match d with
  | .tup xs => if xs.length = n then g xs z else none
  | _ => none
def sAsg (c : CE) (g : Tg) : CS := fun z S => oDo (c z S) z fun d S' => match g d z with
  | some z' => .nx z' S'
  | none => .bad
/-- a, b = x, y -/
def sPar (i j : Nat) (a : CA) : CS := fun z S => oDo (a z S) z fun ds S' => match ds with
  | [x, y] => .nx ((z.set i (.d x)).set j (.d y)) S'
  | _ => .bad
/-- x = a new list, which is x's own from now on -/
def sSetL (i : Nat) (c : CE) : CS := fun z S => oDo (c z S) z fun d S' => match d with
  | .lst xs => .nx (z.set i (.l xs)) S'
  | _ => .bad
/-- an own list becomes a value that never changes -/
def sFrz (i : Nat) (c : CS) : CS := fun z S => match z[i]? with
  | some (.l xs) => c (z.set i (.d (.lst xs))) S
  | _ => .bad
def sAppend (i : Nat) (c : CE) : CS := fun z S => match z[i]? with
  | some (.l xs) => oDo (c z S) z fun d S' => if xs.length < 16777216 then .nx (z.set i (.l (xs ++ [d]))) S' else .bad
  | _ => .bad
def sExtend (i : Nat) (c : CE) : CS := fun z S => match z[i]? with
  | some (.l xs) => oDo (c z S) z fun d S' => match d with
    | .lst ys => if xs.length + ys.length ≤ 16777216 then .nx (z.set i (.l (xs ++ ys))) S' else .bad
    | _ => .bad
  | _ => .bad
/-- o.append(e), o in the store -/
def cAppendP (o c : CE) : CE := fun z S => (o z S).bind fun p S1 => match p with
  | .ptr j => match S1[j]? with
    | some (.lst _) => (c z S1).bind fun d S2 => match S2[j]? with
      | some (.lst xs) => if xs.length < 16777216 then .ok .non (S2.set j (.lst (xs ++ [d]))) else .bad
      | _ => .bad
    | _ => .bad
  | _ => .bad
/-- o[k] = v, o a list of the store -/
def sItem (o k v : CE) : CS := fun z S => oDo (v z S) z fun d S1 => oDo (o z S1) z fun p S2 => oDo (k z S2) z fun i S3 => match p, i with
  | .ptr j, .int i => match S3[j]? with
    | some (.lst xs) => match L2.ixN xs.length i with
      | some n => .nx z (S3.set j (.lst (xs.set n d)))
      | none => .bad
    | _ => .bad
  | _, _ => .bad
def putN {α : Type} (f : Str) (v : α) : List Str → List α → List Str × List α
  | n :: ns, x :: xs => if n = f then (n :: ns, v :: xs) else (n :: (putN f v ns xs).1, x :: (putN f v ns xs).2)
  | _, _ => ([f], [v])
/-- o.f = v, o an object of the store -/
def sField (C : Addr) (f : Str) (o v : CE) : CS := fun z S => oDo (v z S) z fun d S1 => oDo (o z S1) z fun p S2 => match p with
  | .ptr j => match S2[j]? with
    | some (.ins C' ns xs) => if C' = C ∧ ns.length < 1000 then .nx z (S2.set j (.ins C (putN f d ns xs).1 (putN f d ns xs).2)) else .bad
    | _ => .bad
  | _ => .bad
/-- for -/
def loop (g : Tg) (b : CS) : List D → Sl → Store → O
  | [], z, S => .nx z S
  | d :: ds, z, S => match g d z with
    | none => .bad
    | some z1 => match b z1 S with
      | .nx z2 S2 => loop g b ds z2 S2
      | .ct z2 S2 => loop g b ds z2 S2
      | .bk z2 S2 => .nx z2 S2
      | o => o
def sFor (it : CA) (g : Tg) (b : CS) : CS := fun z S => oDo (it z S) z fun ds S' => loop g b ds z S'
/-- while, at most n turns -/
def wloop (t : CT) (b : CS) : Nat → Sl → Store → O
  | 0, _, _ => .bad
  | n + 1, z, S => oDo (t z S) z fun c S1 => if c then match b z S1 with
      | .nx z2 S2 => wloop t b n z2 S2
      | .ct z2 S2 => wloop t b n z2 S2
      | .bk z2 S2 => .nx z2 S2
      | o => o
    else .nx z S1
def sWhile (n : Nat) (t : CT) (b : CS) : CS := wloop t b n
def iSeq (c : CE) : CA := fun z S => (c z S).bind fun d S' => match d with
  | .tup xs => .ok xs S'
  | .lst xs => .ok xs S'
  | .scr ns => .ok (ns.map D.int) S'
  | _ => .bad
/-- the bounds of a range -/
def in62 (n : Int) : Bool := decide (n.natAbs.log2 < 62)
theorem in62_of {n : Int} (h : n.natAbs < 2 ^ 62) : in62 n = true := by
  unfold in62
  by_cases h0 : n.natAbs = 0
  · rw [h0]; decide +kernel
  · rw [decide_eq_true_eq]; exact (Nat.log2_lt h0).mpr h
theorem in62_iff {n : Int} (h : in62 n = true) : -(2 ^ 62) ≤ n ∧ n < 2 ^ 62 := by
  unfold in62 at h
  rw [decide_eq_true_eq] at h
  have e : (2 : Int) ^ 62 = 4611686018427387904 := by rfl
  have e2 : (2 : Nat) ^ 62 = 4611686018427387904 := by rfl
  rw [e]
  by_cases h0 : n.natAbs = 0
  · omega
  · have := (Nat.log2_lt h0).mp h
    rw [e2] at this
    omega
def iRange1 (c : CE) : CA := fun z S => (c z S).bind fun d S' => match d with
  | .int n => if in62 n then .ok ((List.range n.toNat).map fun (k : Nat) => D.int (0 + (k : Int))) S' else .bad
  | _ => .bad
def enumD (xs : List D) : List D := xs.zipIdx.map fun p => D.tup [.int (p.2 : Nat), p.1]
def iEnum (c : CE) : CA := fun z S => (c z S).bind fun d S' => match d with
  | .tup xs => .ok (enumD xs) S'
  | .lst xs => .ok (enumD xs) S'
  | _ => .bad
/-- the comprehension's own names are wiped -/
def wipeD (z : Sl) : List Nat → Sl
  | [] => z
  | v :: vs => (wipeD z vs).set v .u
/-- a turn's value, if the test lets it: the exceptions do not leave -/
def lcGo (g : Tg) (t : CT) (e : CE) (z : Sl) : List D → Store → List D → R (List D)
  | [], S, acc => .ok acc S
  | d :: ds, S, acc => match g d z with
    | none => .bad
    | some z1 => match t z1 S with
      | .ok true S1 => match e z1 S1 with
        | .ok x S2 => if acc.length < 16777216 then lcGo g t e z ds S2 (acc ++ [x]) else .bad
        | _ => .bad
      | .ok false S1 => lcGo g t e z ds S1 acc
      | _ => .bad
def tYesC : CT := fun _ S => .ok true S
def cLc (it : CA) (g : Tg) (t : CT) (e : CE) (vs : List Nat) : CE := fun z S => (it z S).bind fun ds S1 => (lcGo g t e (wipeD z vs) ds S1 []).bind fun xs S2 => .ok (.lst xs) S2
/-- C.NAME, a constant of the class at C -/
def cVal (C : Addr) (v : D) (o : CE) : CE := fun z S => (o z S).bind fun d S1 => match d with
  | .ref a => if a = C then .ok v S1 else .bad
  | _ => .bad
/-- C.m(..), m a static method of the class at C -/
def cStat (C : Addr) (g : G) (o : CE) (a : CA) : CE := fun z S => (o z S).bind fun d S1 => match d with
  | .ref b => if b = C then (a z S1).bind g else .bad
  | _ => .bad
end CL
set_option Elab.async false
set_option linter.all false
set_option maxRecDepth 100000
namespace CL
open PySem PySem.Spec PyProof.Rows L2
/-- the written part that the walk stands on -/
class TheK where
  K : PySem.W.Frag
variable [TheK]
/-- a list of ints of the written part -/
def KLst (a : Addr) (ns : List Int) : Prop := ∃ (o : Obj) (its : Array Value) (n : Nat), TheK.K.lookup a = some o ∧ o.cls = .type "list" ∧ o.dict = none ∧ o.data = .seq its n ∧ its.size ≤ sizeLine ∧ Vals (ns.map V.int) its.toList
mutual
/-- v stands for the datum: i: where the store's objects stand; B: the part of the heap that never changes -/
def Rp (I : List Addr) (B : Hp) (v : V) : D → Prop
  | .non => v = .non
  | .bl b => v = .bl b
  | .int i => v = .int i
  | .str s => v = .str s
  | .byt b => v = .byt b
  | .tup xs => ∃ a vs, v = .ref a ∧ B a = some (.tup vs) ∧ Rps I B vs xs
  | .lst xs => ∃ a vs, v = .ref a ∧ B a = some (.lst vs) ∧ Rps I B vs xs
  | .scr ns => ∃ a, v = .ref a ∧ (Rd B a (.lst (ns.map V.int)) ∨ KLst a ns)
  | .dct ks xs => ∃ a vs, v = .ref a ∧ B a = some (.dK (ks.zip vs)) ∧ ks.length = vs.length ∧ Rps I B vs xs
  | .obj C ns xs => ∃ a dx vs, v = .ref a ∧ B a = some (.ins C dx (ns.zip vs)) ∧ ns.length = vs.length ∧ Rps I B vs xs
  | .ptr i => ∃ a, I[i]? = some a ∧ v = .ref a
  | .ref a => v = .ref a
  | .ty n => v = .ty n
def Rps (I : List Addr) (B : Hp) : List V → List D → Prop
  | [], [] => True
  | v :: vs, x :: xs => Rp I B v x ∧ Rps I B vs xs
  | [], _ :: _ => False
  | _ :: _, [] => False
end
theorem Rps.len {I : List Addr} {B : Hp} : ∀ {vs : List V} {xs : List D}, Rps I B vs xs → vs.length = xs.length
  | [], [], _ => rfl
  | v :: vs, x :: xs, h => by
    have := Rps.len (vs := vs) (xs := xs) h.2
    simp [this]
  | [], _ :: _, h => h.elim
  | _ :: _, [], h => h.elim
theorem Rps.get {I : List Addr} {B : Hp} : ∀ {vs : List V} {xs : List D} {j : Nat} {x : D}, Rps I B vs xs → xs[j]? = some x → ∃ v, vs[j]? = some v ∧ Rp I B v x
  | [], [], j, x, _, e => by simp at e
  | v :: vs, y :: xs, 0, x, h, e => by
    simp at e; subst e
    exact ⟨v, rfl, h.1⟩
  | v :: vs, y :: xs, j + 1, x, h, e => by
    obtain ⟨u, h1, h2⟩ := Rps.get (j := j) h.2 (by simpa using e)
    exact ⟨u, by simpa using h1, h2⟩
  | [], _ :: _, _, _, h, _ => h.elim
  | _ :: _, [], _, _, h, _ => h.elim
theorem Rps.append {I : List Addr} {B : Hp} : ∀ {vs ws : List V} {xs ys : List D}, Rps I B vs xs → Rps I B ws ys → Rps I B (vs ++ ws) (xs ++ ys)
  | [], ws, [], ys, _, h => h
  | v :: vs, ws, x :: xs, ys, h, k => ⟨h.1, Rps.append h.2 k⟩
  | [], _, _ :: _, _, h, _ => h.elim
  | _ :: _, _, [], _, h, _ => h.elim
theorem Rps.take {I : List Addr} {B : Hp} : ∀ {vs : List V} {xs : List D} (n : Nat), Rps I B vs xs → Rps I B (vs.take n) (xs.take n)
  | [], [], n, _ => by simp [Rps]
  | v :: vs, x :: xs, 0, h => by simp [Rps]
  | v :: vs, x :: xs, n + 1, h => ⟨h.1, Rps.take n h.2⟩
  | [], _ :: _, _, h => h.elim
  | _ :: _, [], _, h => h.elim
theorem Rps.drop {I : List Addr} {B : Hp} : ∀ {vs : List V} {xs : List D} (n : Nat), Rps I B vs xs → Rps I B (vs.drop n) (xs.drop n)
  | [], [], n, _ => by simp [Rps]
  | v :: vs, x :: xs, 0, h => h
  | v :: vs, x :: xs, n + 1, h => Rps.drop n h.2
  | [], _ :: _, _, h => h.elim
  | _ :: _, [], _, h => h.elim
theorem Rps.set {I : List Addr} {B : Hp} {u : V} {y : D} (r : Rp I B u y) : ∀ {vs : List V} {xs : List D} (n : Nat), Rps I B vs xs → Rps I B (vs.set n u) (xs.set n y)
  | [], [], n, _ => by simp [Rps]
  | v :: vs, x :: xs, 0, h => ⟨r, h.2⟩
  | v :: vs, x :: xs, n + 1, h => ⟨h.1, Rps.set r n h.2⟩
  | [], _ :: _, _, h => h.elim
  | _ :: _, [], _, h => h.elim
theorem Rps.ints {I : List Addr} {B : Hp} : ∀ ns : List Int, Rps I B (ns.map V.int) (ns.map D.int)
  | [] => trivial
  | n :: ns => ⟨rfl, Rps.ints ns⟩
mutual
theorem Rp.mono {I J : List Addr} {B B' : Hp} (p : ∃ k, J = I ++ k) (e : ∀ a o, B a = some o → B' a = some o) : ∀ {v : V} (x : D), Rp I B v x → Rp J B' v x
  | v, .non, h => h
  | v, .bl _, h => h
  | v, .int _, h => h
  | v, .str _, h => h
  | v, .byt _, h => h
  | v, .tup xs, ⟨a, vs, h1, h2, h3⟩ => ⟨a, vs, h1, e _ _ h2, Rps.mono p e xs h3⟩
  | v, .lst xs, ⟨a, vs, h1, h2, h3⟩ => ⟨a, vs, h1, e _ _ h2, Rps.mono p e xs h3⟩
  | v, .scr ns, ⟨a, h1, h2⟩ => ⟨a, h1, h2.imp (fun h2 => h2.elim (fun z => .inl (e _ _ z)) fun ⟨o, z⟩ => .inr ⟨o, e _ _ z⟩) id⟩
  | v, .dct ks xs, ⟨a, vs, h1, h2, h3, h4⟩ => ⟨a, vs, h1, e _ _ h2, h3, Rps.mono p e xs h4⟩
  | v, .obj C ns xs, ⟨a, dx, vs, h1, h2, h3, h4⟩ => ⟨a, dx, vs, h1, e _ _ h2, h3, Rps.mono p e xs h4⟩
  | v, .ptr i, ⟨a, h1, h2⟩ => ⟨a, by
      obtain ⟨k, rfl⟩ := p
      rw [List.getElem?_append_left (List.getElem?_eq_some_iff.mp h1).1]
      exact h1, h2⟩
  | v, .ref _, h => h
  | v, .ty _, h => h
theorem Rps.mono {I J : List Addr} {B B' : Hp} (p : ∃ k, J = I ++ k) (e : ∀ a o, B a = some o → B' a = some o) : ∀ {vs : List V} (xs : List D), Rps I B vs xs → Rps J B' vs xs
  | [], [], _ => trivial
  | _ :: _, x :: xs, h => ⟨Rp.mono p e x h.1, Rps.mono p e xs h.2⟩
  | [], _ :: _, h => h.elim
  | _ :: _, [], h => h.elim
end
/-- a lambda: its words, the cells that it captured -/
structure LamD where
  q : Str
  params : Arguments
  body : Expr
  scope : Scope
  cl : List (Str × Addr)
/-- tables of code objects; code objects; the lambdas of the running def -/
abbrev Tl := List NdefX.NTab × List (Addr × Str) × (Nat → Option LamD)
/-- the object at a is the lambda, its code object at c' -/
def LamO (D : LamD) (c' : Addr) (dV doc pm ctv : Value) : HO := .frz (PySem.W.kdv_obj "<lambda>" D.q D.params (.expr D.body) D.scope D.cl dV doc pm c' ctv) (.own 0)
def DfOk (B : Hp) (D : LamD) (dV : Value) : Prop := (D.params.defaults.isEmpty = true ∧ dV = .none) ∨ (D.params.defaults.isEmpty = false ∧ ∃ t, dV = .ref t ∧ B t = some (.tup [.int 0]))
theorem DfOk.mono {B B' : Hp} {D : LamD} {dV : Value} (e : ∀ a o, B a = some o → B' a = some o) (h : DfOk B D dV) : DfOk B' D dV := h.imp id fun ⟨h1, t, h2, h3⟩ => ⟨h1, t, h2, e _ _ h3⟩
def FnAt (L : Tl) (B H : Hp) (a : Addr) (o : HO) (id : Nat) : Prop := ∃ D c' dV doc pm ctv, o = LamO D c' dV doc pm ctv ∧ B a = some o ∧ H c' = some (LamX.CodeO c' D.q) ∧ DfOk B D dV ∧ ∀ D', L.2.2 id = some D' → D = D'
/-- an object of the store -/
def RpM (L : Tl) (I : List Addr) (B H : Hp) (a : Addr) (o : HO) : MO → Prop
  | .lst xs => ∃ vs, o = .lst vs ∧ Rps I B vs xs
  | .dct ks xs => ∃ vs, o = .dK (ks.zip vs) ∧ ks.length = vs.length ∧ Rps I B vs xs
  | .ins C ns xs => ∃ dx vs, o = .ins C dx (ns.zip vs) ∧ ns.length = vs.length ∧ Rps I B vs xs
  | .lk ks xs => ∃ od vs, o = .frz od (.dK (ks.zip vs)) ∧ ks.length = vs.length ∧ Rps I B vs xs ∧ B a = some o
  | .fn id => FnAt L B H a o id
theorem RpM.mono {L : Tl} {I J : List Addr} {B B' H : Hp} {a : Addr} {o : HO} (p : ∃ k, J = I ++ k) (e : ∀ a o, B a = some o → B' a = some o) : ∀ {m : MO}, RpM L I B H a o m → RpM L J B' H a o m
  | .lst xs, ⟨vs, h1, h2⟩ => ⟨vs, h1, h2.mono p e⟩
  | .dct ks xs, ⟨vs, h1, h2, h3⟩ => ⟨vs, h1, h2, h3.mono p e⟩
  | .ins C ns xs, ⟨dx, vs, h1, h2, h3⟩ => ⟨dx, vs, h1, h2, h3.mono p e⟩
  | .lk ks xs, ⟨od, vs, h1, h2, h3, h4⟩ => ⟨od, vs, h1, h2, h3.mono p e, e _ _ h4⟩
  | .fn _, ⟨D, c', dV, doc, pm, ctv, h1, h0, h2, h3, h4⟩ => ⟨D, c', dV, doc, pm, ctv, h1, e _ _ h0, h2, h3.mono e, h4⟩
theorem RpM.cod {L : Tl} {I : List Addr} {B H H' : Hp} {a : Addr} {o : HO} (k : ∀ c q, H c = some (LamX.CodeO c q) → H' c = some (LamX.CodeO c q)) : ∀ {m : MO}, RpM L I B H a o m → RpM L I B H' a o m
  | .lst _, h => h
  | .dct _ _, h => h
  | .ins _ _ _, h => h
  | .lk _ _, h => h
  | .fn _, ⟨D, c', dV, doc, pm, ctv, h1, h0, h2, h3⟩ => ⟨D, c', dV, doc, pm, ctv, h1, h0, k _ _ h2, h3⟩
theorem RpM.tab {L L' : Tl} {I : List Addr} {B H : Hp} {a : Addr} {o : HO} (k : ∀ id D, L'.2.2 id = some D → L.2.2 id = some D) : ∀ {m : MO}, RpM L I B H a o m → RpM L' I B H a o m
  | .lst _, h => h
  | .dct _ _, h => h
  | .ins _ _ _, h => h
  | .lk _ _, h => h
  | .fn _, ⟨D, c', dV, doc, pm, ctv, h1, h0, h2, h3, h4⟩ => ⟨D, c', dV, doc, pm, ctv, h1, h0, h2, h3, fun D' h => h4 D' (k _ _ h)⟩
/-- a code object stays where another object changes -/
theorem cod_upd {H : Hp} {a : Addr} {o u : HO} (ha : H a = some o) (n : ∀ f, o ≠ .ext f) : ∀ c q, H c = some (LamX.CodeO c q) → upd H a u c = some (LamX.CodeO c q) := fun c q h => by
  have : c ≠ a := fun e => by
    subst e
    rw [ha] at h
    exact n _ (Option.some.inj h)
  rw [upd_ne this]; exact h
/-- nothing stands there, or a table -/
def Fr (H : Hp) (a : Addr) : Prop := ∀ o, H a = some o → ∃ ps, o = HO.tbl ps
theorem Fr.of {H : Hp} {a : Addr} (h : H a = none) : Fr H a := fun o e => by rw [h] at e; cases e
theorem Fr.no {H : Hp} {a : Addr} {o : HO} (h : Fr H a) (e : H a = some o) (n : ∀ ps, o ≠ .tbl ps) : False := by
  obtain ⟨ps, q⟩ := h o e
  exact n ps q
theorem Fr.down {H : Hp} {a b : Addr} {u : HO} (h : Fr (upd H a u) b) (h0 : b = a → Fr H b) : Fr H b := fun o e => by
  by_cases q : b = a
  · exact h0 q o e
  · exact h o (by rw [upd_ne q]; exact e)
/-- from one state to a later one -/
structure Gr (I : List Addr) (B H : Hp) (J : List Addr) (B' H' : Hp) : Prop where
  pre : ∃ k, J = I ++ k ∧ ∀ a ∈ k, Fr H a
  ext : ∀ a o, B a = some o → B' a = some o
  new : ∀ a o, B' a = some o → B a = some o ∨ Fr H a
  keep : ∀ a o, H a = some o → a ∉ I → (∀ ps, o ≠ .tbl ps) → H' a = some o
  dom : ∀ a, Fr H' a → Fr H a
theorem Gr.refl (I : List Addr) (B H : Hp) : Gr I B H I B H := ⟨⟨[], by simp, by simp⟩, fun _ _ h => h, fun _ _ h => .inl h, fun _ _ h _ _ => h, fun _ h => h⟩
theorem Gr.sub {I J : List Addr} {B H B' H' : Hp} (g : Gr I B H J B' H') : ∃ k, J = I ++ k := let ⟨k, h, _⟩ := g.pre; ⟨k, h⟩
theorem Gr.trans {I J L : List Addr} {B H B' H' B2 H2 : Hp} (g : Gr I B H J B' H') (k : Gr J B' H' L B2 H2) : Gr I B H L B2 H2 := by
  obtain ⟨k1, rfl, f1⟩ := id g.pre
  obtain ⟨k2, rfl, f2⟩ := k.pre
  refine ⟨⟨k1 ++ k2, by simp, fun a ha => ?_⟩, fun a o h => k.ext a o (g.ext a o h), fun a o h => ?_, fun a o h n t => ?_, fun a h => g.dom a (k.dom a h)⟩
  · rcases List.mem_append.mp ha with h | h
    · exact f1 a h
    · exact g.dom a (f2 a h)
  · rcases k.new a o h with h | h
    · exact g.new a o h
    · exact .inr (g.dom a h)
  · refine k.keep a o (g.keep a o h n t) (fun hm => ?_) t
    rcases List.mem_append.mp hm with h' | h'
    · exact n h'
    · exact (f1 a h').no h t
theorem Rp.gr {I J : List Addr} {B H B' H' : Hp} {v : V} {x : D} (h : Rp I B v x) (g : Gr I B H J B' H') : Rp J B' v x := h.mono g.sub g.ext
theorem Rps.gr {I J : List Addr} {B H B' H' : Hp} {v : List V} {x : List D} (h : Rps I B v x) (g : Gr I B H J B' H') : Rps J B' v x := h.mono g.sub g.ext
def TbOk (L : Tl) (H : Hp) : Prop := NdefX.TabsN L.1 H ∧ ∀ p ∈ L.2.1, H p.1 = some (LamX.CodeO p.1 p.2)
theorem TbOk.ext {L : Tl} {H H' : Hp} (t : TbOk L H) (e : ∀ b o, H b = some o → H' b = some o) : TbOk L H' := ⟨t.1.ext e, fun p hp => e _ _ (t.2 p hp)⟩
theorem Gr.more {I J : List Addr} {B H B' H' H2 : Hp} (g : Gr I B H J B' H') (k : ∀ a o, H' a = some o → H2 a = some o) : Gr I B H J B' H2 where
  pre := g.pre
  ext := g.ext
  new := g.new
  keep := fun a o h n t => k a o (g.keep a o h n t)
  dom := fun a h => g.dom a fun o e => h o (k a o e)
/-- an object is laid down for good -/
theorem Gr.lay {I J : List Addr} {B H B' H' : Hp} {p : Addr} {o : HO} (g : Gr I B H J B' H') (h0 : Fr H p) (hb : B' p = none) : Gr I B H J (upd B' p o) H' where
  pre := g.pre
  ext := fun c u q => by
    have ne : c ≠ p := fun e => by
      subst e
      have := g.ext _ _ q
      rw [hb] at this; cases this
    rw [upd_ne ne]; exact g.ext c u q
  new := fun c u q => by
    by_cases e : c = p
    · exact .inr (e ▸ h0)
    · rw [upd_ne e] at q; exact g.new c u q
  keep := g.keep
  dom := g.dom
/-- what stays: the tables of code objects; the exception in hand -/
structure Pm where
  tabs : Tl
  xa : Option (Addr × Value × Option Addr)
  fn : Option (Addr × List Addr × Hp × Hp)
variable (L : Tl) (T : Pm)
/-- the store stands -/
structure Sto (I : List Addr) (B H : Hp) (S : Store) : Prop where
  len : I.length = S.length
  nd : I.Nodup
  dj : ∀ a ∈ I, ∀ o, B a = some o → ∃ od u, o = .frz od u
  sub : ∀ a o, B a = some o → H a = some o
  nt : ∀ a o, B a = some o → ∀ ps, o ≠ .tbl ps
  at_ : ∀ (i : Nat) (m : MO), S[i]? = some m → ∃ a o, I[i]? = some a ∧ H a = some o ∧ RpM L I B H a o m
  tb : TbOk L H
def RpX (I : List Addr) (B : Hp) (c : Value) (dd : Option Addr) (e : Exn) : Prop := c = .ref e.cls ∧
  ((e.ns = [] ∧ dd = none) ∨ ∃ a vs, dd = some a ∧ B a = some (.xd (e.ns.zip vs)) ∧ e.ns.length = vs.length ∧ Rps I B vs e.xs)
theorem RpX.mono {I J : List Addr} {B B' : Hp} {c : Value} {d : Option Addr} {e : Exn} (p : ∃ k, J = I ++ k) (k : ∀ a o, B a = some o → B' a = some o) (h : RpX I B c d e) : RpX J B' c d e := ⟨h.1, h.2.elim .inl fun ⟨a, vs, h1, h2, h3, h4⟩ => .inr ⟨a, vs, h1, k _ _ h2, h3, Rps.mono p k e.xs h4⟩⟩
/-- an own object -/
def Own (H0 : Hp) (I : List Addr) (B : Hp) (a : Addr) : Prop := Fr H0 a ∧ B a = none ∧ a ∉ I
def SlotOk (T : Pm) (H0 : Hp) (I : List Addr) (B H : Hp) (o : Option V) : SV → Prop
  | .u => True
  | .d x => ∃ v, o = some v ∧ Rp I B v x
  | .l xs => ∃ a vs, o = some (.ref a) ∧ H a = some (.lst vs) ∧ Rps I B vs xs ∧ Own H0 I B a
  | .m ks xs => ∃ a vs, o = some (.ref a) ∧ H a = some (.dK (ks.zip vs)) ∧ ks.length = vs.length ∧ Rps I B vs xs ∧ Own H0 I B a
  | .f => ∃ a I1 B1 H1, T.fn = some (a, I1, B1, H1) ∧ o = some (.ref a) ∧ Gr I1 B1 H1 I B H ∧ ∀ b, Fr H0 b → Fr H1 b
  | .x e => ∃ a d, T.xa = some (a, .ref e.cls, d) ∧ o = some (.ref a) ∧ RpX I B (.ref e.cls) d e
def isOwn : SV → Bool
  | .l _ => true
  | .m _ _ => true
  | _ => false
structure Slt (H0 : Hp) (I : List Addr) (B H : Hp) (s : L2.St) (z : Sl) : Prop where
  len : s.length = z.length
  ok : ∀ (i : Nat) (o : Option V) (x : SV), s[i]? = some o → z[i]? = some x → SlotOk T H0 I B H o x
  ne : ∀ (i j : Nat) (a : Addr) (x y : SV), s[i]? = some (some (V.ref a)) → s[j]? = some (some (V.ref a)) → z[i]? = some x → z[j]? = some y → isOwn x = true → isOwn y = true → i = j
structure At (H0 : Hp) (I : List Addr) (B H : Hp) (s : L2.St) (z : Sl) (S : Store) : Prop where
  sl : Slt T H0 I B H s z
  st : Sto T.tabs I B H S
variable {L} {T}
theorem SlotOk.gr {H0 : Hp} {I J : List Addr} {B H B' H' : Hp} {o : Option V} {x : SV} (g : Gr I B H J B' H') (h : SlotOk T H0 I B H o x) : SlotOk T H0 J B' H' o x := by
  have own : ∀ {a : Addr} {u : HO}, H a = some u → Own H0 I B a → (∀ ps, u ≠ .tbl ps) → H' a = some u ∧ Own H0 J B' a := fun {a u} ha ⟨h1, h2, h3⟩ nt => by
    obtain ⟨k, e, f⟩ := g.pre
    refine ⟨g.keep a u ha h3 nt, h1, ?_, fun hm => ?_⟩
    · cases q : B' a with
      | none => rfl
      | some w =>
        rcases g.new a w q with z | z
        · rw [h2] at z; cases z
        · exact (z.no ha nt).elim
    · rw [e] at hm
      rcases List.mem_append.mp hm with z | z
      · exact h3 z
      · exact (f a z).no ha nt
  cases x with
  | u => trivial
  | d x => obtain ⟨v, e, r⟩ := h; exact ⟨v, e, r.gr g⟩
  | l xs =>
    obtain ⟨a, vs, e, ha, r, ow⟩ := h
    obtain ⟨q1, q2⟩ := own ha ow (fun ps z => by cases z)
    exact ⟨a, vs, e, q1, r.gr g, q2⟩
  | m ks xs =>
    obtain ⟨a, vs, e, ha, hl, r, ow⟩ := h
    obtain ⟨q1, q2⟩ := own ha ow (fun ps z => by cases z)
    exact ⟨a, vs, e, q1, hl, r.gr g, q2⟩
  | f =>
    obtain ⟨a, I1, B1, H1, h1, h2, h3, h4⟩ := h
    exact ⟨a, I1, B1, H1, h1, h2, h3.trans g, h4⟩
  | x e =>
    obtain ⟨a, d, h1, h2, h3⟩ := h
    exact ⟨a, d, h1, h2, h3.mono g.sub g.ext⟩
theorem Slt.gr {H0 : Hp} {I J : List Addr} {B H B' H' : Hp} {s : L2.St} {z : Sl} (g : Gr I B H J B' H') (h : Slt T H0 I B H s z) : Slt T H0 J B' H' s z :=
  ⟨h.len, fun i o x h1 h2 => (h.ok i o x h1 h2).gr g, h.ne⟩
variable (L) (T)
/-- what is wished of the end of a piece -/
def Fin {α β : Type} (rep : List Addr → Hp → β → α → Prop) (W : WX) (s : L2.St) (I : List Addr) (B H : Hp) (Q : β → Hp → Prop) : R α → Prop
  | .ok x S' => ∀ J B' H' v, Gr I B H J B' H' → Sto L J B' H' S' → rep J B' v x → Q v H'
  | .exc e S' => ∀ J B' H' c dd, Gr I B H J B' H' → Sto L J B' H' S' → RpX J B' c dd e → W c dd s H'
  | .bad => False
/-- the reading of a piece -/
def rd {α β : Type} (rep : List Addr → Hp → β → α → Prop) (W : WX) (c : C α) : L2.St → Hp → (β → Hp → Prop) → Prop := fun s H Q =>
  ∃ H0 I B z S, At T H0 I B H s z S ∧ Fin T.tabs rep W s I B H Q (c z S)
abbrev rB : List Addr → Hp → Bool → Bool → Prop := fun _ _ x y => x = y
abbrev rdE (W : WX) (c : CE) : TE := rd T Rp W c
abbrev rdT (W : WX) (c : CT) : TT := rd T rB W c
abbrev rdA (W : WX) (c : CA) : TA := rd T Rps W c
variable {L} {T}
section
variable {α β γ δ : Type} {rep : List Addr → Hp → β → α → Prop} {rep2 : List Addr → Hp → δ → γ → Prop} {W : WX} {s : L2.St} {I J : List Addr} {B H B' H' H0 : Hp} {Q : β → Hp → Prop} {z : Sl} {S S' : Store}
theorem Fin.gr {r : R α} (h : Fin L rep W s I B H Q r) (g : Gr I B H J B' H') : Fin L rep W s J B' H' Q r := by
  cases r with
  | ok x S' => exact fun J B' H' v g' => h J B' H' v (g.trans g')
  | exc e S' => exact fun J B' H' c dd g' => h J B' H' c dd (g.trans g')
  | bad => exact h
theorem At.gr (h : At T H0 I B H s z S) (g : Gr I B H J B' H') (st : Sto T.tabs J B' H' S') : At T H0 J B' H' s z S' := ⟨h.sl.gr g, st⟩
/-- a piece, and what is made of its end -/
theorem bind {ca : C α} {f : α → Store → R γ} {P : β → Hp → Prop} {Q : δ → Hp → Prop} (at_ : At T H0 I B H s z S) (h : Fin T.tabs rep2 W s I B H Q ((ca z S).bind f))
    (k : ∀ J B' H' S' v x, Gr I B H J B' H' → At T H0 J B' H' s z S' → rep J B' v x → Fin T.tabs rep2 W s J B' H' Q (f x S') → P v H') : rd T rep W ca s H P := by
  refine ⟨H0, I, B, z, S, at_, ?_⟩
  cases e : ca z S with
  | ok x S' =>
    rw [e] at h
    exact fun J B' H' v g st r => k J B' H' S' v x g (at_.gr g st) r (Fin.gr (r := f x S') h g)
  | exc x S' =>
    rw [e] at h
    exact h
  | bad =>
    rw [e] at h
    exact h
theorem Fin.here {x : α} {v : β} (h : Fin L rep W s I B H Q (.ok x S)) (st : Sto L I B H S) (r : rep I B v x) : Q v H := h I B H v (Gr.refl I B H) st r
/-- a new object that never changes -/
theorem gr_new {p : Addr} {o : HO} (hp : H p = none) (hb : ∀ a o, B a = some o → H a = some o) : Gr I B H I (upd B p o) (upd H p o) where
  pre := ⟨[], by simp, by simp⟩
  ext := fun a u h => by
    have : a ≠ p := fun e => by subst e; rw [hb _ _ h] at hp; cases hp
    rw [upd_ne this]; exact h
  new := fun a u h => by
    by_cases e : a = p
    · exact .inr (e ▸ Fr.of hp)
    · rw [upd_ne e] at h; exact .inl h
  keep := fun a u h _ _ => by
    have : a ≠ p := fun e => by subst e; rw [h] at hp; cases hp
    rw [upd_ne this]; exact h
  dom := fun a h => h.down fun q => by subst q; exact .of hp
theorem Sto.mono_H {H' : Hp} (st : Sto L I B H S) (k : ∀ a o, H a = some o → H' a = some o) : Sto L I B H' S :=
  ⟨st.len, st.nd, st.dj, fun a o h => k _ _ (st.sub a o h), st.nt, fun i m h => let ⟨a, o, h1, h2, h3⟩ := st.at_ i m h; ⟨a, o, h1, k _ _ h2, h3.cod fun _ _ => k _ _⟩, st.tb.ext k⟩
theorem keep_new {p : Addr} {o : HO} (hp : H p = none) : ∀ a u, H a = some u → upd H p o a = some u := fun a u h => by
  have : a ≠ p := fun e => by subst e; rw [h] at hp; cases hp
  rw [upd_ne this]; exact h
theorem Sto.new {p : Addr} {o : HO} (st : Sto L I B H S) (hp : H p = none) (nt : ∀ ps, o ≠ .tbl ps) : Sto L I (upd B p o) (upd H p o) S := by
  have hI : ∀ a ∈ I, a ≠ p := fun a ha e => by
    obtain ⟨i, hi⟩ := List.mem_iff_getElem?.mp ha
    have hl : i < S.length := by
      have := (List.getElem?_eq_some_iff.mp hi).1
      rw [st.len] at this; exact this
    obtain ⟨b, u, h1, h2, _⟩ := st.at_ i S[i] (List.getElem?_eq_getElem hl)
    rw [hi] at h1; cases h1
    rw [e, hp] at h2; cases h2
  have st' := st.mono_H (keep_new (o := o) hp)
  have hB : ∀ a u, B a = some u → upd B p o a = some u := fun a u h => by
    have : a ≠ p := fun e => by subst e; rw [st.sub _ _ h] at hp; cases hp
    rw [upd_ne this]; exact h
  refine ⟨st.len, st.nd, fun a ha o q => by rw [upd_ne (hI a ha)] at q; exact st.dj a ha o q, fun a u h => ?_, fun a u h => ?_, fun i m h => ?_, st'.tb⟩
  · by_cases e : a = p
    · subst e; rw [upd_same] at h ⊢; exact h
    · rw [upd_ne e] at h ⊢; exact st.sub a u h
  · by_cases e : a = p
    · subst e; rw [upd_same] at h; cases h; exact nt
    · rw [upd_ne e] at h; exact st.nt a u h
  · obtain ⟨a, u, h1, h2, h3⟩ := st'.at_ i m h
    exact ⟨a, u, h1, h2, h3.mono ⟨[], by simp⟩ hB⟩
theorem Fin.fresh {x : α} {v : β} {p : Addr} {o : HO} (h : Fin L rep W s I B H Q (.ok x S)) (st : Sto L I B H S) (hp : H p = none) (nt : ∀ ps, o ≠ .tbl ps) (r : rep I (upd B p o) v x) : Q v (upd H p o) :=
  h I _ _ v (gr_new hp st.sub) (st.new hp nt) r
theorem Rps.new {p : Addr} {o : HO} {vs : List V} {xs : List D} (r : Rps I B vs xs) (st : Sto L I B H S) (hp : H p = none) : Rps I (upd B p o) vs xs :=
  r.mono ⟨[], by simp⟩ (xs := xs) fun a u h => by
    have : a ≠ p := fun e => by subst e; rw [st.sub _ _ h] at hp; cases hp
    rw [upd_ne this]; exact h
end
theorem pe_imp {X : Cx} {e : Expr} {t t' : TE} (h : PE X e t) (k : ∀ s H Q, t' s H Q → t s H Q) : PE X e t' := ⟨fun pins s σ H Q I hq => h.run pins s σ H Q I (k _ _ _ hq)⟩
theorem pt_imp {X : Cx} {e : Expr} {t t' : TT} (h : PT X e t) (k : ∀ s H Q, t' s H Q → t s H Q) : PT X e t' := ⟨fun pins s σ H Q I hq => h.run pins s σ H Q I (k _ _ _ hq)⟩
theorem pw_imp {X : Cx} {e : Expr} {t t' : TT} (h : PW X e t) (k : ∀ s H Q, t' s H Q → t s H Q) : PW X e t' := ⟨fun w pins s σ H Q I hq => h.run w pins s σ H Q I (k _ _ _ hq)⟩
theorem pa_imp {X : Cx} {e : List Expr} {t t' : TA} (h : PA X e t) (k : ∀ s H Q, t' s H Q → t s H Q) : PA X e t' := ⟨fun pos pins s σ H Q I hq => h.run pos pins s σ H Q I (k _ _ _ hq)⟩
theorem ps_imp {X : Cx} {e : Stmt} {t t' : TS} (h : PS X e t) (k : ∀ D s H, t' D s H → t D s H) : PS X e t' := ⟨fun pins s σ H D I hq => h.run pins s σ H D I (k _ _ _ hq)⟩
theorem pss_imp {X : Cx} {e : List Stmt} {t t' : TS} (h : PSs X e t) (k : ∀ D s H, t' D s H → t D s H) : PSs X e t' := ⟨fun pins s σ H D I hq => h.run pins s σ H D I (k _ _ _ hq)⟩
end CL
set_option Elab.async false
set_option linter.all false
set_option maxRecDepth 100000
namespace CL
open PySem PySem.Spec PyProof.Rows L2
variable [TheK]
variable {L : Tl} {T : Pm} {X : Cx} {W : WX}
theorem Slt.get {H0 : Hp} {I : List Addr} {B H : Hp} {s : L2.St} {z : Sl} {i : Nat} {x : SV} (h : Slt T H0 I B H s z) (e : z[i]? = some x) : ∃ o, s[i]? = some o ∧ SlotOk T H0 I B H o x := by
  have hl : i < s.length := by rw [h.len]; exact (List.getElem?_eq_some_iff.mp e).1
  exact ⟨s[i], List.getElem?_eq_getElem hl, h.ok i _ x (List.getElem?_eq_getElem hl) e⟩
theorem e_var (i : Nat) {x : Str} {pos : Pos} (hN : X.N[i]? = some x := by rfl) (hv : Vis X.env.scope x := by first | exact Or.inl rfl | exact Or.inr (Or.inl rfl) | exact Or.inr (Or.inr rfl)) (hd : (x == ("__debug__" : Str)) = false := by decide)
    (hcd : (x == ("__classdict__" : Str)) = false := by decide) : PE X (.Name x pos) (rdE T W (cVar i)) := by
  refine pe_imp (pe_var hN hv hd hcd) ?_
  rintro s H Q ⟨H0, I, B, z, S, a, f⟩
  unfold cVar slotD at f
  split at f
  · rename_i x e
    obtain ⟨o, h1, v, h2, r⟩ := a.sl.get e
    exact ⟨v, by rw [h1, h2], f.here a.st r⟩
  · exact f.elim
theorem e_k {e : Expr} {v : V} {x : D} (h : PE X e (tC v)) (r : ∀ I B, Rp I B v x) : PE X e (rdE T W (cK x)) := by
  refine pe_imp h ?_
  rintro s H Q ⟨H0, I, B, z, S, a, f⟩
  exact Fin.here (x := x) (v := v) f a.st (r I B)
theorem e_int {i j pos} : PE X (.Constant (.int i) j pos) (rdE T W (cK (.int i))) := e_k pe_int fun _ _ => rfl
theorem e_bl {b j pos} : PE X (.Constant (.bool b) j pos) (rdE T W (cK (.bl b))) := e_k pe_bl fun _ _ => rfl
theorem e_non {j pos} : PE X (.Constant .none j pos) (rdE T W (cK .non)) := e_k pe_non fun _ _ => rfl
theorem e_str {x j pos} : PE X (.Constant (.str x) j pos) (rdE T W (cK (.str x))) := e_k pe_str fun _ _ => rfl
/-- a def or class of the module, as a value -/
theorem e_glob {x : Str} {a : Addr} {pos : Pos} (hg : Gl X x) (hm : X.mg x = some (.ref a)) (hd : (x == ("__debug__" : Str)) = false := by decide) : PE X (.Name x pos) (rdE T W (cK (.ref a))) := e_k (pe_glob (v := .ref a) hg hm rfl hd) fun _ _ => rfl
theorem e_globI {x : Str} {i : Int} {t : Tok} {pos : Pos} (hg : Gl X x) (hm : X.mg x = some (.int i t)) (hd : (x == ("__debug__" : Str)) = false := by decide) : PE X (.Name x pos) (rdE T W (cK (.int i))) := e_k (pe_glob (v := .int i) hg hm ⟨t, rfl⟩ hd) fun _ _ => rfl
variable (L) in
/-- the operation on data is the operation on values -/
def Ok2 (r : R2) (f : D → D → Store → R D) : Prop := ∀ {W : WX} {s : L2.St} {I : List Addr} {B H : Hp} {Q : VK} {S : Store} {v u : V} {x y : D}, Sto L I B H S → Rp I B v x → Rp I B u y → Fin L Rp W s I B H Q (f x y S) → r v u H Q
variable (L) in
def OkA (r : List V → Hp → VK → Prop) (f : List D → Store → R D) : Prop := ∀ {W : WX} {s : L2.St} {I : List Addr} {B H : Hp} {Q : VK} {S : Store} {v : List V} {x : List D}, Sto L I B H S → Rps I B v x → Fin L Rp W s I B H Q (f x S) → r v H Q
section
variable {a b c : Expr} {ca cb cc : CE} {pos : Pos} {f g : D → D → Store → R D}
theorem two {r : R2} (hf : Ok2 T.tabs r f) {s : L2.St} {H : Hp} {Q : VK} (h : rdE T W (c2 f ca cb) s H Q) : tOp r (rdE T W ca) (rdE T W cb) s H Q := by
  obtain ⟨H0, I, B, z, S, a, h⟩ := h
  refine bind a h fun J B' H' S' v x g a1 r1 f1 => ?_
  refine bind (rep := Rp) (Q := Q) (rep2 := Rp) a1 f1 fun J2 B2 H2 S2 u y g2 a2 r2 f2 => ?_
  exact hf a2.st (r1.gr g2) r2 f2
theorem e_op {op : Operator} {r : R2} (ho : OpR X (binaryOp op) r) (hf : Ok2 T.tabs r f) (ha : PE X a (rdE T W ca)) (hb : PE X b (rdE T W cb)) : PE X (.BinOp a op b pos) (rdE T W (c2 f ca cb)) :=
  pe_imp (pe_op ho ha hb) fun _ _ _ h => two hf h
theorem e_cmp {op : CmpOp} {r : R2} (ho : OpR X (compareOp op) r) (hf : Ok2 T.tabs r f) (ha : PE X a (rdE T W ca)) (hb : PE X b (rdE T W cb)) (hm : behindInMarks op b = false) : PE X (.Compare a [op] [b] pos) (rdE T W (c2 f ca cb)) :=
  pe_imp (pe_cmpR ho ha hb hm) fun _ _ _ h => two hf h
/-- a truth value as a test -/
theorem toB {c : CE} {s : L2.St} {H : Hp} {Q : Bool → Hp → Prop} (h : rdT T W (tB c) s H Q) : rdE T W c s H fun x H' => ∃ k, x = .bl k ∧ Q k H' := by
  obtain ⟨H0, I, B, z, S, a, h⟩ := h
  refine bind (rep2 := rB) (Q := Q) a h fun J B' H' S' v x g a1 r1 f1 => ?_
  cases x with
  | bl k => exact ⟨k, r1, f1.here a1.st rfl⟩
  | _ => exact f1.elim
theorem t_cmp {op : CmpOp} {r : R2} (ho : OpR X (compareOp op) r) (hf : Ok2 T.tabs r f) (ha : PE X a (rdE T W ca)) (hb : PE X b (rdE T W cb)) (hm : behindInMarks op b = false) : PT X (.Compare a [op] [b] pos) (rdT T W (tB (c2 f ca cb))) :=
  pt_imp (pt_cmpR ho ha hb hm) fun _ _ _ h => two hf (toB h)
theorem chain {r r' : R2} (hf : Ok2 T.tabs r f) (hg : Ok2 T.tabs r' g) {s : L2.St} {H : Hp} {Q : VK} (h : rdE T W (cChain f g ca cb cc) s H Q) : tChain r r' (rdE T W ca) (rdE T W cb) (rdE T W cc) s H Q := by
  obtain ⟨H0, I, B, z, S, a, h⟩ := h
  refine bind a h fun J B' H' S' v x g1 a1 r1 f1 => ?_
  refine bind (rep := Rp) (Q := Q) (rep2 := Rp) a1 f1 fun J2 B2 H2 S2 u y g2 a2 r2 f2 => ?_
  refine hf (W := W) (s := s) (S := S2) a2.st (r1.gr g2) r2 ?_
  cases e : f x y S2 with
  | ok k S3 =>
    rw [e] at f2
    intro J3 B3 H3 k' g3 st3 rk
    cases k with
    | bl k =>
      cases rk
      refine ⟨k, rfl, ?_⟩
      have f3 := Fin.gr f2 g3
      cases k with
      | true =>
        rw [if_pos rfl]
        have a3 := a2.gr g3 st3
        exact bind (rep := Rp) (Q := Q) (rep2 := Rp) a3 f3 fun J4 B4 H4 S4 w y' g4 a4 r4 f4 => hg a4.st ((r2.gr g3).gr g4) r4 f4
      | false =>
        rw [if_neg Bool.false_ne_true]
        exact Fin.here f3 st3 rfl
    | _ => exact f2.elim
  | exc x S3 =>
    rw [e] at f2
    exact f2
  | bad =>
    rw [e] at f2
    exact f2
theorem e_chain {op op' : CmpOp} {r r' : R2} (ho : OpR X (compareOp op) r) (ho' : OpR X (compareOp op') r') (hf : Ok2 T.tabs r f) (hg : Ok2 T.tabs r' g) (ha : PE X a (rdE T W ca)) (hb : PE X b (rdE T W cb)) (hc : PE X c (rdE T W cc))
    (hm : lastMarks [op, op'] [b, c] = false := by with_unfolding_all rfl) : PE X (.Compare a [op, op'] [b, c] pos) (rdE T W (cChain f g ca cb cc)) :=
  pe_imp (pe_chain ho ho' ha hb hc hm) fun _ _ _ h => chain hf hg h
theorem t_chain {op op' : CmpOp} {r r' : R2} (ho : OpR X (compareOp op) r) (ho' : OpR X (compareOp op') r') (hf : Ok2 T.tabs r f) (hg : Ok2 T.tabs r' g) (ha : PE X a (rdE T W ca)) (hb : PE X b (rdE T W cb)) (hc : PE X c (rdE T W cc))
    (hm : lastMarks [op, op'] [b, c] = false := by with_unfolding_all rfl) : PT X (.Compare a [op, op'] [b, c] pos) (rdT T W (tB (cChain f g ca cb cc))) :=
  pt_imp (pt_chain ho ho' ha hb hc hm) fun _ _ _ h => chain hf hg (toB h)
theorem t_val {e : Expr} {ce : CE} (h : PE X e (rdE T W ce)) (he : ∀ whole, isTrue e X.env whole = (do let v ← whole; standAt e.pos; holding [v] (truthy v)) := by intro _; rfl) : PT X e (rdT T W (tB ce)) :=
  pt_imp (pt_val h he) fun _ _ _ h => toB h
variable {t u : CT} {rest : List Expr}
theorem t_not (ha : PT X a (rdT T W t)) : PT X (.UnaryOp .Not a pos) (rdT T W (tNot t)) := by
  refine pt_imp (L2.pt_not ha) ?_
  rintro s H Q ⟨H0, I, B, z, S, a, h⟩
  refine bind (rep2 := rB) (Q := Q) a h fun J B' H' S' v x g a1 r1 f1 => ?_
  cases r1
  exact f1.here a1.st rfl
theorem w_and1 (ha : PT X a (rdT T W t)) : PW X (.BoolOp .And [a] pos) (rdT T W t) := pw_and1 ha
theorem w_or1 (ha : PT X a (rdT T W t)) : PW X (.BoolOp .Or [a] pos) (rdT T W t) := pw_or1 ha
theorem w_and (ha : PT X a (rdT T W t)) (hb : PW X (.BoolOp .And (b :: rest) pos) (rdT T W u)) : PW X (.BoolOp .And (a :: b :: rest) pos) (rdT T W (CL.tAnd t u)) := by
  refine pw_imp (pw_and ha hb) ?_
  rintro s H Q ⟨H0, I, B, z, S, a, h⟩
  refine bind (rep2 := rB) (Q := Q) a h fun J B' H' S' v x g a1 r1 f1 => ?_
  cases r1
  cases v with
  | true => exact ⟨H0, J, B', z, S', a1, f1⟩
  | false => exact Fin.here f1 a1.st rfl
theorem w_or (ha : PT X a (rdT T W t)) (hb : PW X (.BoolOp .Or (b :: rest) pos) (rdT T W u)) : PW X (.BoolOp .Or (a :: b :: rest) pos) (rdT T W (CL.tOr t u)) := by
  refine pw_imp (pw_or ha hb) ?_
  rintro s H Q ⟨H0, I, B, z, S, a, h⟩
  refine bind (rep2 := rB) (Q := Q) a h fun J B' H' S' v x g a1 r1 f1 => ?_
  cases r1
  cases v with
  | false => exact ⟨H0, J, B', z, S', a1, f1⟩
  | true => exact Fin.here f1 a1.st rfl
theorem t_w (h : PW X a (rdT T W t)) : PT X a (rdT T W t) := h.pt
theorem e_if (hc : PT X c (rdT T W t)) (ha : PE X a (rdE T W ca)) (hb : PE X b (rdE T W cb)) : PE X (.IfExp c a b pos) (rdE T W (CL.cIf t ca cb)) := by
  refine pe_imp (pe_ifExp hc ha hb) ?_
  rintro s H Q ⟨H0, I, B, z, S, a, h⟩
  refine bind (rep2 := Rp) (Q := Q) a h fun J B' H' S' v x g a1 r1 f1 => ?_
  cases r1
  cases v with
  | true => exact ⟨H0, J, B', z, S', a1, f1⟩
  | false => exact ⟨H0, J, B', z, S', a1, f1⟩
theorem e_one {op : BoolOp} (h : PE X a (rdE T W ca)) : PE X (.BoolOp op [a] pos) (rdE T W ca) := pe_one h
theorem e_and (ha : PE X a (rdE T W ca)) (hb : PE X (.BoolOp .And (b :: rest) pos) (rdE T W cb)) : PE X (.BoolOp .And (a :: b :: rest) pos) (rdE T W (cAnd ca cb)) := by
  refine pe_imp (pe_and ha hb) ?_
  rintro s H Q ⟨H0, I, B, z, S, a, h⟩
  refine bind (rep2 := Rp) (Q := Q) a h fun J B' H' S' v x g a1 r1 f1 => ?_
  cases x with
  | bl k =>
    refine ⟨k, r1, ?_⟩
    cases k with
    | true => exact ⟨H0, J, B', z, S', a1, f1⟩
    | false => exact Fin.here f1 a1.st rfl
  | _ => exact f1.elim
variable {es : List Expr} {cs : CA}
theorem a_nil : PA X [] (rdA T W aNil) := by
  refine pa_imp pa_nil ?_
  rintro s H Q ⟨H0, I, B, z, S, a, h⟩
  exact Fin.here (x := ([] : List D)) (v := ([] : List V)) h a.st trivial
theorem a_cons (ha : PE X a (rdE T W ca)) (hr : PA X es (rdA T W cs)) (hs : starEach (a :: es) X.env = (false, eval a X.env) :: starEach es X.env := by rfl) : PA X (a :: es) (rdA T W (aCons ca cs)) := by
  refine pa_imp (pa_cons ha hr hs) ?_
  rintro s H Q ⟨H0, I, B, z, S, a, h⟩
  refine bind (rep2 := Rps) (Q := Q) a h fun J B' H' S' v x g a1 r1 f1 => ?_
  refine bind (rep := Rps) (rep2 := Rps) (Q := Q) a1 f1 fun J2 B2 H2 S2 vs xs g2 a2 r2 f2 => ?_
  exact Fin.here (v := v :: vs) f2 a2.st ⟨r1.gr g2, r2⟩
end
end CL
set_option Elab.async false
set_option linter.all false
set_option maxRecDepth 100000
namespace CL
open PySem PySem.Spec PyProof.Rows L2
variable [TheK]
variable {L : Tl} {T : Pm} {X : Cx} {W : WX}
theorem line_le {n : Nat} (h : n ≤ 16777216) : n ≤ sizeLine := by rw [sizeLine_eq]; exact h
theorem line_lt {n : Nat} (h : n < 16777216) : n < sizeLine := by rw [sizeLine_eq]; exact h
section
variable {s : L2.St} {I : List Addr} {B H : Hp} {Q : VK} {S : Store} {v u : V} {x y : D} {K : PySem.W.Frag}
theorem Sto.rdL (st : Sto L I B H S) {a : Addr} {o : HO} (h : Rd B a o) : Rd H a o := h.elim (fun z => .inl (st.sub _ _ z)) fun ⟨o, z⟩ => .inr ⟨o, st.sub _ _ z⟩
theorem Rp.tup (st : Sto L I B H S) {xs : List D} (r : Rp I B v (.tup xs)) : ∃ a vs, v = .ref a ∧ H a = some (.tup vs) ∧ B a = some (.tup vs) ∧ Rps I B vs xs :=
  let ⟨a, vs, h1, h2, h3⟩ := r; ⟨a, vs, h1, st.sub _ _ h2, h2, h3⟩
theorem Rp.lst (st : Sto L I B H S) {xs : List D} (r : Rp I B v (.lst xs)) : ∃ a vs, v = .ref a ∧ H a = some (.lst vs) ∧ B a = some (.lst vs) ∧ Rps I B vs xs :=
  let ⟨a, vs, h1, h2, h3⟩ := r; ⟨a, vs, h1, st.sub _ _ h2, h2, h3⟩
/-- what stands behind a pointer -/
theorem Rp.ptr (st : Sto L I B H S) {i : Nat} {m : MO} (r : Rp I B v (.ptr i)) (e : S[i]? = some m) : ∃ a o, v = .ref a ∧ I[i]? = some a ∧ H a = some o ∧ RpM L I B H a o m := by
  obtain ⟨a, h1, h2⟩ := r
  obtain ⟨b, o, h3, h4, h5⟩ := st.at_ i m e
  rw [h1] at h3; cases h3
  exact ⟨a, o, h2, h1, h4, h5⟩
theorem Sto.scr (st : Sto L I B H S) {a : Addr} {ns : List Int} (h : Rd B a (.lst (ns.map V.int)) ∨ KLst a ns) : SqL TheK.K H a (ns.map V.int) := h.imp st.rdL id
theorem items (hK : K = TheK.K) (st : Sto L I B H S) {xs : List D} (r : Rp I B v x) (e : itemsOf S x = some xs) : ∃ a vs, v = .ref a ∧ (SqL K H a vs ∨ SqT K H a vs) ∧ Rps I B vs xs := by
  subst hK
  unfold itemsOf at e
  split at e
  · cases e
    obtain ⟨a, vs, h1, h2, _, h3⟩ := Rp.tup st r
    exact ⟨a, vs, h1, .inr (SqT.of h2), h3⟩
  · cases e
    obtain ⟨a, vs, h1, h2, _, h3⟩ := Rp.lst st r
    exact ⟨a, vs, h1, .inl (SqL.of h2), h3⟩
  · cases e
    obtain ⟨a, h1, h2⟩ := r
    exact ⟨a, _, h1, .inl (st.scr h2), Rps.ints _⟩
  · rename_i i
    split at e
    · rename_i ys e2
      cases e
      obtain ⟨a, o, h1, _, h2, vs, h3, h4⟩ := Rp.ptr st r e2
      subst h3
      exact ⟨a, vs, h1, .inl (SqL.of h2), h4⟩
    · cases e
  · cases e
theorem Rps.nil_iff {vs : List V} {xs : List D} (h : Rps I B vs xs) : vs = [] ↔ xs = [] := by
  have := h.len
  cases vs <;> cases xs <;> simp_all
theorem Fin.newT {W : WX} {xs : List D} {vs : List V} {p : Addr} (f : Fin L Rp W s I B H Q (.ok (.tup xs) S)) (st : Sto L I B H S) (r : Rps I B vs xs) (hp : H p = none) : Q (.ref p) (upd H p (.tup vs)) :=
  f.fresh st hp (fun _ z => by cases z) ⟨p, vs, rfl, upd_same, r.new st hp⟩
theorem Fin.newL {W : WX} {xs : List D} {vs : List V} {p : Addr} (f : Fin L Rp W s I B H Q (.ok (.lst xs) S)) (st : Sto L I B H S) (r : Rps I B vs xs) (hp : H p = none) : Q (.ref p) (upd H p (.lst vs)) :=
  f.fresh st hp (fun _ z => by cases z) ⟨p, vs, rfl, upd_same, r.new st hp⟩
theorem Rps.rep {vs : List V} {xs : List D} (h : Rps I B vs xs) : ∀ k : Nat, Rps I B (List.replicate k vs).flatten (List.replicate k xs).flatten
  | 0 => by simp [Rps]
  | k + 1 => by
    rw [List.replicate_succ, List.replicate_succ, List.flatten_cons, List.flatten_cons]
    exact h.append (Rps.rep h k)
end
abbrev rAddA (K : PySem.W.Frag) : R2 := fun x y H Q => (rI0 fun i j => .int (i + j)) x y H Q ∨ (∃ i j, x = .str i ∧ y = .str j ∧ i.length + j.length ≤ sizeLine ∧ Q (.str (i ++ j)) H) ∨ rCatA K x y H Q ∨ rCat x y H Q
theorem op_addA : OpR X (binaryOp .Add) (rAddA X.K) := op_add.or (op_add_str.or (op_catA.or op_cat))
theorem k_add {K : PySem.W.Frag} : Ok2 L (rAddA K) oAdd := by
  intro W s I B H Q S v u x y st rx ry f
  unfold oAdd at f
  split at f
  · cases rx; cases ry
    exact .inl ⟨_, _, rfl, rfl, f.here st rfl⟩
  · cases rx; cases ry
    split at f
    · rename_i h
      exact .inr (.inl ⟨_, _, rfl, rfl, line_le h, f.here st rfl⟩)
    · exact f.elim
  · split at f
    · rename_i h
      obtain ⟨a, vs, rfl, h1, b1, r1⟩ := Rp.tup st rx
      obtain ⟨b, ws, rfl, h2, b2, r2⟩ := Rp.tup st ry
      refine .inr (.inr (.inl ⟨a, b, vs, ws, rfl, rfl, SqT.of h1, SqT.of h2, by rw [r1.len, r2.len]; exact line_le h, fun e => ?_, fun n e => ?_, fun n1 n2 p hp => f.newT st (r1.append r2) hp⟩))
      · have := r1.nil_iff.mp e
        subst this
        exact f.here st ⟨b, ws, rfl, b2, r2⟩
      · have := r2.nil_iff.mp e
        subst this
        rw [List.append_nil] at f
        exact f.here st ⟨a, vs, rfl, b1, r1⟩
    · exact f.elim
  · split at f
    · rename_i h
      obtain ⟨a, vs, rfl, h1, b1, r1⟩ := Rp.lst st rx
      obtain ⟨b, ws, rfl, h2, b2, r2⟩ := Rp.lst st ry
      exact .inr (.inr (.inr ⟨a, b, vs, ws, rfl, rfl, h1, h2, by rw [r1.len, r2.len]; exact line_le h, fun p hp => f.newL st (r1.append r2) hp⟩))
    · exact f.elim
  · split at f
    · rename_i e
      split at f
      · rename_i h
        obtain ⟨a, o, rfl, _, h1, vs, rfl, r1⟩ := Rp.ptr st rx e
        obtain ⟨b, ws, rfl, h2, b2, r2⟩ := Rp.lst st ry
        exact .inr (.inr (.inr ⟨a, b, vs, ws, rfl, rfl, h1, h2, by rw [r1.len, r2.len]; exact line_le h, fun p hp => f.newL st (r1.append r2) hp⟩))
      · exact f.elim
    · exact f.elim
  · exact f.elim
theorem k_sub : Ok2 L (rI0 fun i j => .int (i - j)) oSub := by
  intro W s I B H Q S v u x y st rx ry f
  unfold oSub at f
  split at f
  · cases rx; cases ry
    exact ⟨_, _, rfl, rfl, f.here st rfl⟩
  · exact f.elim
abbrev rMulA (K : PySem.W.Frag) : R2 := fun x y H Q => (rI CMul fun i j => .int (i * j)) x y H Q ∨ rRepT K x y H Q ∨ rRep x y H Q
theorem op_mulA : OpR X (binaryOp .Mult) (rMulA X.K) := op_mul.or (op_repT.or op_rep)
theorem k_mul {K : PySem.W.Frag} : Ok2 L (rMulA K) oMul := by
  intro W s I B H Q S v u x y st rx ry f
  unfold oMul at f
  split at f
  · cases rx; cases ry
    split at f
    · rename_i h
      refine .inl ⟨_, _, rfl, rfl, ?_, f.here st rfl⟩
      simp only [smallI, Bool.or_eq_true, Bool.and_eq_true, decide_eq_true_eq] at h
      exact h
    · exact f.elim
  · split at f
    · rename_i h
      obtain ⟨h0, h1, h2, h3⟩ := h
      obtain ⟨a, vs, rfl, ha, b1, r1⟩ := Rp.tup st rx
      cases ry
      exact .inr (.inl ⟨a, _, vs, rfl, rfl, SqT.of ha, fun e => h0 (r1.nil_iff.mp e), h1, h2, by rw [r1.len]; exact h3, fun p hp => f.newT st (r1.rep _) hp⟩)
    · exact f.elim
  · split at f
    · rename_i h
      obtain ⟨h0, h1, h2⟩ := h
      obtain ⟨a, vs, rfl, ha, b1, r1⟩ := Rp.lst st rx
      cases ry
      exact .inr (.inr ⟨a, _, vs, rfl, rfl, ha, h0, h1, by rw [r1.len]; exact line_le h2, fun p hp => f.newL st (r1.rep _) hp⟩)
    · exact f.elim
  · exact f.elim
theorem k_mod : Ok2 L (rI (fun _ j => 0 < j) fun i j => .int (i % j)) oMod := by
  intro W s I B H Q S v u x y st rx ry f
  unfold oMod at f
  split at f
  · cases rx; cases ry
    split at f
    · rename_i h
      exact ⟨_, _, rfl, rfl, h, f.here st rfl⟩
    · exact f.elim
  · exact f.elim
theorem k_div : Ok2 L (rI CDivW fun i j => .int (i / j)) oDiv := by
  intro W s I B H Q S v u x y st rx ry f
  unfold oDiv at f
  split at f
  · cases rx; cases ry
    split at f
    · rename_i h
      exact ⟨_, _, rfl, rfl, h, f.here st rfl⟩
    · exact f.elim
  · exact f.elim
theorem k_pow : Ok2 L (rI CPow fun i j => .int (i ^ j.toNat)) oPow := by
  intro W s I B H Q S v u x y st rx ry f
  unfold oPow at f
  split at f
  · cases rx; cases ry
    split at f
    · rename_i h
      exact ⟨_, _, rfl, rfl, h, f.here st rfl⟩
    · exact f.elim
  · exact f.elim
theorem k_cmp {p : Int → Int → Bool} : Ok2 L (rI0 fun i j => .bl (p i j)) (oCmp p) := by
  intro W s I B H Q S v u x y st rx ry f
  unfold oCmp at f
  split at f
  · cases rx; cases ry
    exact ⟨_, _, rfl, rfl, f.here st rfl⟩
  · exact f.elim
theorem k_lt : Ok2 L (rI0 fun i j => .bl (decide (i < j))) oLt := k_cmp
theorem k_le : Ok2 L (rI0 fun i j => .bl (decide (i ≤ j))) oLe := k_cmp
theorem k_gt : Ok2 L (rI0 fun i j => .bl (decide (j < i))) oGt := k_cmp
theorem k_ge : Ok2 L (rI0 fun i j => .bl (decide (j ≤ i))) oGe := k_cmp
theorem isNon_iff {I : List Addr} {B : Hp} {v : V} {x : D} (r : Rp I B v x) : decide (v = .non) = isNon x := by
  cases x with
  | non => cases r; rfl
  | bl _ => cases r; rfl
  | int _ => cases r; rfl
  | str _ => cases r; rfl
  | byt _ => cases r; rfl
  | tup _ => obtain ⟨a, vs, rfl, _⟩ := r; rfl
  | lst _ => obtain ⟨a, vs, rfl, _⟩ := r; rfl
  | scr _ => obtain ⟨a, rfl, _⟩ := r; rfl
  | dct _ _ => obtain ⟨a, vs, rfl, _⟩ := r; rfl
  | obj _ _ _ => obtain ⟨a, dx, vs, rfl, _⟩ := r; rfl
  | ptr _ => obtain ⟨a, _, rfl⟩ := r; rfl
  | ref _ => cases r; rfl
  | ty _ => cases r; rfl
theorem k_isN : Ok2 L (fun x y H Q => y = .non ∧ Q (.bl (decide (x = .non))) H) xIsN := by
  intro W s I B H Q S v u x y st rx ry f
  cases y with
  | non => exact ⟨ry, Fin.here f st (by rw [isNon_iff rx]; rfl)⟩
  | _ => exact f.elim
theorem k_notN : Ok2 L (fun x y H Q => y = .non ∧ Q (.bl (!decide (x = .non))) H) xNotN := by
  intro W s I B H Q S v u x y st rx ry f
  cases y with
  | non => exact ⟨ry, Fin.here f st (by rw [isNon_iff rx]; rfl)⟩
  | _ => exact f.elim
section
variable {I : List Addr} {B H : Hp} {S : Store} {K : PySem.W.Frag}
mutual
theorem dp_of (st : Sto L I B H S) : ∀ {v : V} (x : D) {d : PyData}, Rp I B v x → toPy x = some d → Dp K H v d
  | v, .non, d, r, e => by cases r; cases e; exact .non
  | v, .bl b, d, r, e => by cases r; cases e; exact .bl b
  | v, .int b, d, r, e => by cases r; cases e; exact .int b
  | v, .str b, d, r, e => by cases r; cases e; exact .str b
  | v, .tup xs, d, r, e => by
    obtain ⟨a, vs, rfl, h, _, r'⟩ := Rp.tup st r
    unfold toPy at e
    cases q : toPys xs with
    | none => rw [q] at e; cases e
    | some ds =>
      rw [q] at e; cases e
      exact .tup (SqT.of h) (dps_of st xs r' q)
  | v, .lst xs, d, r, e => by
    obtain ⟨a, vs, rfl, h, _, r'⟩ := Rp.lst st r
    unfold toPy at e
    cases q : toPys xs with
    | none => rw [q] at e; cases e
    | some ds =>
      rw [q] at e; cases e
      exact .lst (SqL.of h) (dps_of st xs r' q)
  | v, .byt b, d, r, e => by cases e
  | v, .scr b, d, r, e => by cases e
  | v, .dct _ _, d, r, e => by cases e
  | v, .obj _ _ _, d, r, e => by cases e
  | v, .ptr _, d, r, e => by cases e
  | v, .ref _, d, r, e => by cases e
  | v, .ty _, d, r, e => by cases e
theorem dps_of (st : Sto L I B H S) : ∀ {vs : List V} (xs : List D) {ds : List PyData}, Rps I B vs xs → toPys xs = some ds → DpAll K H vs ds
  | [], [], ds, r, e => by
    unfold toPys at e; cases e; exact .nil
  | v :: vs, x :: xs, ds, r, e => by
    unfold toPys at e
    cases q : toPy x with
    | none => rw [q] at e; cases e
    | some d =>
      cases q2 : toPys xs with
      | none => rw [q, q2] at e; cases e
      | some ds' =>
        rw [q, q2] at e; cases e
        exact .cons (dp_of st x r.1 q) (dps_of st xs r.2 q2)
  | [], _ :: _, _, r, _ => r.elim
  | _ :: _, [], _, r, _ => r.elim
end
theorem dp_look (st : Sto L I B H S) {v : V} {x : D} {d : PyData} (r : Rp I B v x) (e : toPy (look S x) = some d) : Dp K H v d := by
  unfold look at e
  split at e
  · rename_i i
    split at e
    · rename_i xs q
      obtain ⟨a, o, rfl, _, h, vs, rfl, r'⟩ := Rp.ptr st r q
      unfold toPy at e
      cases q2 : toPys xs with
      | none => rw [q2] at e; cases e
      | some ds =>
        rw [q2] at e; cases e
        exact .lst (SqL.of h) (dps_of st xs r' q2)
    · cases e
  · exact dp_of st x r e
end
theorem k_eq {K : PySem.W.Frag} : Ok2 L (rEqD K) (oEq false) := by
  intro W s I B H Q S v u x y st rx ry f
  unfold oEq at f
  split at f
  · rename_i d e h1 h2
    split at f
    · rename_i h
      obtain ⟨h3, h4⟩ := Bool.and_eq_true_iff.mp h
      exact ⟨d, e, dp_look st rx h1, dp_look st ry h2, h3, h4, Fin.here f st rfl⟩
    · exact f.elim
  · exact f.elim
theorem k_ne {K : PySem.W.Frag} : Ok2 L (rNeD K) (oEq true) := by
  intro W s I B H Q S v u x y st rx ry f
  unfold oEq at f
  split at f
  · rename_i d e h1 h2
    split at f
    · rename_i h
      obtain ⟨h3, h4⟩ := Bool.and_eq_true_iff.mp h
      exact ⟨d, e, dp_look st rx h1, dp_look st ry h2, h3, h4, Fin.here f st rfl⟩
    · exact f.elim
  · exact f.elim
theorem ixN_get {α β : Type} {xs : List α} {ys : List β} (h : xs.length = ys.length) {i : Int} {y : β} (e : L2.atI ys i = some y) : ∃ j, L2.ixN xs.length i = some j ∧ ys[j]? = some y := by
  unfold L2.atI at e
  cases q : L2.ixN ys.length i with
  | none => rw [q] at e; cases e
  | some j => exact ⟨j, by rw [h]; exact q, by rw [q] at e; exact e⟩
theorem k_ix {K : PySem.W.Frag} (hK : K = TheK.K) : Ok2 L (rIx K) oIx := by
  intro W s I B H Q S v u x y st rx ry f
  unfold oIx at f
  split at f
  · rename_i xs i e
    cases ry
    split at f
    · rename_i w q
      obtain ⟨a, vs, rfl, h, r⟩ := items hK st rx e
      obtain ⟨j, h1, h2⟩ := ixN_get r.len q
      obtain ⟨w', h3, h4⟩ := r.get h2
      have q' : L2.atI vs i = some w' := by unfold L2.atI; rw [h1]; exact h3
      rcases h with h | h
      · exact .inl ⟨a, vs, i, w', rfl, rfl, h, q', f.here st h4⟩
      · exact .inr (.inl ⟨a, vs, i, w', rfl, rfl, h, q', f.here st h4⟩)
    · exact f.elim
  · exact f.elim
section
variable {a b : Expr} {ca cb : CE} {pos : Pos} {f : D → D → Store → R D}
theorem e_ix (ha : PE X a (rdE T W ca)) (hb : PE X b (rdE T W cb)) (hs : PlainIx b := by exact fun _ _ => rfl) (hK : X.K = TheK.K := by rfl) : PE X (.Subscript a b pos) (rdE T W (c2 oIx ca cb)) :=
  pe_imp (pe_ix ix_seq ha hb hs) fun _ _ _ h => two (k_ix hK) h
end
end CL
set_option Elab.async false
set_option linter.all false
set_option maxRecDepth 100000
namespace CL
open PySem PySem.Spec PyProof.Rows L2
variable [TheK]
variable {L : Tl} {T : Pm} {X : Cx} {W : WX}
abbrev rO : List Addr → Hp → Option Int → Option Int → Prop := fun _ _ x y => x = y
theorem o_none : PO X none (rd T rO W oNone) := by
  refine ⟨fun pins s σ H Q I h => ?_⟩
  obtain ⟨H0, J, B, z, S, a, h⟩ := h
  exact po_none.run pins s σ H Q I (h J B H none (Gr.refl _ _ _) a.st rfl)
theorem o_some {e : Expr} {c : CE} (he : PE X e (rdE T W c)) : PO X (some e) (rd T rO W (oSome c)) := by
  refine ⟨fun pins s σ H Q I h => ?_⟩
  refine (po_some he).run pins s σ H Q I ?_
  obtain ⟨H0, J, B, z, S, a, h⟩ := h
  refine bind (rep2 := rO) (Q := Q) a h fun J B' H' S' v x g a1 r1 f1 => ?_
  cases x with
  | int i => exact ⟨i, r1, Fin.here (v := some i) f1 a1.st rfl⟩
  | _ => exact f1.elim
abbrev rSlAny (K : PySem.W.Frag) : V → Option Int → Option Int → Hp → VK → Prop := fun x lo hi H Q => rSlA K x lo hi H Q ∨ rSlL K x lo hi H Q ∨ rSlS x lo hi H Q
theorem sl_any : SlR X (rSlAny X.K) := SlR.or sl_tupA (SlR.or sl_list sl_str)
theorem Rps.cut {I : List Addr} {B : Hp} {vs : List V} {xs : List D} (r : Rps I B vs xs) (lo hi : Option Int) : Rps I B (cutV vs lo hi) (cutL xs lo hi) := by
  unfold cutV cutL
  rw [r.len]
  exact (r.drop _).take _
theorem cutL_whole {xs : List D} {lo hi : Option Int} (h : HT.sIx xs.length 0 lo = 0 ∧ HT.sIx xs.length xs.length hi = xs.length) : cutL xs lo hi = xs := by
  unfold cutL
  rw [h.1, h.2]
  simp
theorem k_cut {K : PySem.W.Frag} {s : L2.St} {I : List Addr} {B H : Hp} {Q : VK} {S : Store} {v : V} {x : D} {lo hi : Option Int} (st : Sto L I B H S) (rx : Rp I B v x) (f : Fin L Rp W s I B H Q (oCut x lo hi S)) : rSlAny K v lo hi H Q := by
  unfold oCut at f
  split at f
  · obtain ⟨a, vs, rfl, ha, b, r⟩ := Rp.tup st rx
    refine .inl ⟨a, vs, rfl, SqT.of ha, fun e => ?_, fun _ p hp => f.newT st (r.cut lo hi) hp⟩
    rw [r.len] at e
    rw [cutL_whole e] at f
    exact f.here st ⟨a, vs, rfl, b, r⟩
  · obtain ⟨a, vs, rfl, ha, b, r⟩ := Rp.lst st rx
    exact .inr (.inl ⟨a, vs, rfl, SqL.of ha, fun p hp => f.newL st (r.cut lo hi) hp⟩)
  · split at f
    · rename_i h
      cases rx
      exact .inr (.inr ⟨_, rfl, line_le h, f.here st rfl⟩)
    · exact f.elim
  · split at f
    · rename_i e
      obtain ⟨a, o, rfl, _, ha, vs, rfl, r⟩ := Rp.ptr st rx e
      exact .inr (.inl ⟨a, vs, rfl, SqL.of ha, fun p hp => f.newL st (r.cut lo hi) hp⟩)
    · exact f.elim
  · exact f.elim
theorem e_cut {e : Expr} {lo hi : Option Expr} {ce : CE} {cl ch : CO} {p2 pos : Pos} (he : PE X e (rdE T W ce)) (hl : PO X lo (rd T rO W cl)) (hu : PO X hi (rd T rO W ch)) : PE X (.Subscript e (.Slice lo hi none p2) pos) (rdE T W (cCut ce cl ch)) := by
  refine pe_imp (pe_slice sl_any he hl hu) ?_
  rintro s H Q ⟨H0, I, B, z, S, a, h⟩
  refine bind (rep := Rp) (rep2 := Rp) (Q := Q) a h fun J B' H' S' v x g a1 r1 f1 => ?_
  refine bind (rep := rO) (rep2 := Rp) (Q := Q) a1 f1 fun J2 B2 H2 S2 l l' g2 a2 r2 f2 => ?_
  refine bind (rep := rO) (rep2 := Rp) (Q := Q) a2 f2 fun J3 B3 H3 S3 u u' g3 a3 r3 f3 => ?_
  cases r2; cases r3
  exact k_cut a3.st ((r1.gr g2).gr g3) f3
section
variable {e : Expr} {es : List Expr} {ca : CA} {pos : Pos}
theorem e_tup {x1} (h : PA X es (rdA T W ca)) : PE X (.Tuple es x1 pos) (rdE T W (cTup ca)) := by
  refine pe_imp (pe_tup h) ?_
  rintro s H Q ⟨H0, I, B, z, S, a, h⟩
  refine bind (rep := Rps) (rep2 := Rp) (Q := Q) a h fun J B' H' S' v x g a1 r1 f1 => ?_
  split at f1
  · rename_i hl
    exact ⟨by rw [r1.len]; exact line_le hl, fun p hp => f1.newT a1.st r1 hp⟩
  · exact f1.elim
theorem e_lst (h : PA X es (rdA T W ca)) : PE X (.List es pos) (rdE T W (cLst ca)) := by
  refine pe_imp (pe_lst h) ?_
  rintro s H Q ⟨H0, I, B, z, S, a, h⟩
  refine bind (rep := Rps) (rep2 := Rp) (Q := Q) a h fun J B' H' S' v x g a1 r1 f1 => ?_
  split at f1
  · rename_i hl
    exact ⟨by rw [r1.len]; exact line_le hl, fun p hp => f1.newL a1.st r1 hp⟩
  · exact f1.elim
theorem app {r : List V → Hp → VK → Prop} {f : List D → Store → R D} (hf : OkA T.tabs r f) {s : L2.St} {H : Hp} {Q : VK} (h : rdE T W (cApp f ca) s H Q) : tCB r (rdA T W ca) s H Q := by
  obtain ⟨H0, I, B, z, S, a, h⟩ := h
  exact bind (rep := Rps) (rep2 := Rp) (Q := Q) a h fun J B' H' S' v x g a1 r1 f1 => hf a1.st r1 f1
/-- f(e, ..), f a built-in function; T(e, ..), T a built-in type -/
theorem e_callB {x : Str} {p : Pos} {id : String} {r : List V → Hp → VK → Prop} {f : List D → Store → R D} (hc : CallR X (.builtin id) r) (hf : OkA T.tabs r f) (hg : Gl X x) (hm : X.mg x = none) (hv : bootBuiltins x = some (.builtin id)) (ha : PA X (e :: es) (rdA T W ca))
    (hn : x ≠ "__name__" := by decide) (hdb : (x == ("__debug__" : Str)) = false := by decide)
    (he : starEach (e :: es) X.env = (false, eval e X.env) :: starEach es X.env := by rfl) (hpl : (backTo pos (starEach es X.env)).any (·.1) = false := by rfl) : PE X (.Call (.Name x p) (e :: es) [] pos) (rdE T W (cApp f ca)) :=
  pe_imp (pe_callB hc hg hm hv ha hn hdb he hpl) fun _ _ _ h => app hf h
theorem e_callTy {x : Str} {p : Pos} {id : String} {r : List V → Hp → VK → Prop} {f : List D → Store → R D} (hc : CallR X (.type id) r) (hf : OkA T.tabs r f) (hg : Gl X x) (hm : X.mg x = none) (hv : bootBuiltins x = some (.type id)) (ha : PA X (e :: es) (rdA T W ca))
    (hn : x ≠ "__name__" := by decide) (hdb : (x == ("__debug__" : Str)) = false := by decide)
    (he : starEach (e :: es) X.env = (false, eval e X.env) :: starEach es X.env := by rfl) (hpl : (backTo pos (starEach es X.env)).any (·.1) = false := by rfl) : PE X (.Call (.Name x p) (e :: es) [] pos) (rdE T W (cApp f ca)) :=
  pe_imp (pe_callTy hc hg hm hv ha hn hdb he hpl) fun _ _ _ h => app hf h
end
theorem Rps.one {I : List Addr} {B : Hp} {vs : List V} {x : D} (r : Rps I B vs [x]) : ∃ v, vs = [v] ∧ Rp I B v x := by
  match vs, r with
  | [v], r => exact ⟨v, rfl, r.1⟩
theorem Rps.two {I : List Addr} {B : Hp} {vs : List V} {x y : D} (r : Rps I B vs [x, y]) : ∃ v u, vs = [v, u] ∧ Rp I B v x ∧ Rp I B u y := by
  match vs, r with
  | [v, u], r => exact ⟨v, u, rfl, r.1, r.2.1⟩
theorem items_ty {K : PySem.W.Frag} (hK : K = TheK.K) {I : List Addr} {B H : Hp} {S : Store} {v : V} {x : D} (st : Sto L I B H S) {xs : List D} (r : Rp I B v x) (e : itemsOf S x = some xs) : ∃ a vs, v = .ref a ∧ (SqL K H a vs ∨ SqT K H a vs) ∧ vs.length = xs.length ∧ Rps I B vs xs := by
  obtain ⟨a, vs, h1, h2, h3⟩ := items hK st r e
  exact ⟨a, vs, h1, h2, h3.len, h3⟩
theorem k_len {K : PySem.W.Frag} (hK : K = TheK.K) : OkA L (fun xs H Q => ∃ x n, xs = [x] ∧ LenV K x H n ∧ Q (.int n) H) bLen := by
  intro W s I B H Q S vs xs st r f
  unfold bLen at f
  split at f
  · obtain ⟨v, rfl, rv⟩ := r.one
    cases rv
    split at f
    · rename_i h
      exact ⟨_, _, rfl, ⟨line_le h, rfl⟩, f.here st rfl⟩
    · exact f.elim
  · obtain ⟨v, rfl, rv⟩ := r.one
    cases rv
    split at f
    · rename_i h
      exact ⟨_, _, rfl, ⟨line_le h, rfl⟩, f.here st rfl⟩
    · exact f.elim
  · obtain ⟨v, rfl, rv⟩ := r.one
    split at f
    · rename_i ys e
      obtain ⟨a, ws, rfl, h, hl, _⟩ := items_ty hK st rv e
      refine ⟨_, ys.length, rfl, ?_, f.here st rfl⟩
      rcases h with h | h
      · exact .inl ⟨ws, h, hl.symm⟩
      · exact .inr ⟨ws, h, hl.symm⟩
    · exact f.elim
  · exact f.elim
theorem k_int : OkA L (fun xs H Q => (∃ i, xs = [.int i] ∧ Q (.int i) H) ∨ ∃ k, xs = [.bl k] ∧ Q (.int (if k then 1 else 0)) H) bInt := by
  intro W s I B H Q S vs xs st r f
  unfold bInt at f
  split at f
  · obtain ⟨v, rfl, rv⟩ := r.one
    cases rv
    exact .inl ⟨_, rfl, f.here st rfl⟩
  · obtain ⟨v, rfl, rv⟩ := r.one
    cases rv
    exact .inr ⟨_, rfl, f.here st rfl⟩
  · exact f.elim
theorem k_list {K : PySem.W.Frag} (hK : K = TheK.K) : OkA L (fun xs H Q => ∃ p ys, xs = [.ref p] ∧ (SqL K H p ys ∨ SqT K H p ys) ∧ ∀ l, H l = none → Q (.ref l) (upd H l (.lst ys))) bList := by
  intro W s I B H Q S vs xs st r f
  unfold bList at f
  split at f
  · obtain ⟨v, rfl, rv⟩ := r.one
    split at f
    · rename_i ys e
      obtain ⟨a, ws, rfl, h, hl, hr⟩ := items_ty hK st rv e
      exact ⟨a, ws, rfl, h, fun p hp => f.newL st hr hp⟩
    · exact f.elim
  · exact f.elim
theorem k_tuple {K : PySem.W.Frag} (hK : K = TheK.K) : OkA L (fun xs H Q => ∃ p ys, xs = [.ref p] ∧ ((SqL K H p ys ∧ ∀ l, H l = none → Q (.ref l) (upd H l (.tup ys))) ∨ (SqT K H p ys ∧ Q (.ref p) H))) bTuple := by
  subst hK
  intro W s I B H Q S vs xs st r f
  unfold bTuple at f
  split at f
  · obtain ⟨v, rfl, rv⟩ := r.one
    obtain ⟨a, ws, rfl, ha, b, hr⟩ := Rp.tup st rv
    exact ⟨a, ws, rfl, .inr ⟨SqT.of ha, f.here st rv⟩⟩
  · obtain ⟨v, rfl, rv⟩ := r.one
    obtain ⟨a, ws, rfl, ha, b, hr⟩ := Rp.lst st rv
    exact ⟨a, ws, rfl, .inl ⟨SqL.of ha, fun p hp => f.newT st hr hp⟩⟩
  · obtain ⟨v, rfl, rv⟩ := r.one
    obtain ⟨a, rfl, ha⟩ := rv
    exact ⟨a, _, rfl, .inl ⟨st.scr ha, fun p hp => f.newT st (Rps.ints _) hp⟩⟩
  · obtain ⟨v, rfl, rv⟩ := r.one
    split at f
    · rename_i e
      obtain ⟨a, o, rfl, _, ha, ws, rfl, hr⟩ := Rp.ptr st rv e
      exact ⟨a, ws, rfl, .inl ⟨SqL.of ha, fun p hp => f.newT st hr hp⟩⟩
    · exact f.elim
  · exact f.elim
theorem intsOf_rps {I : List Addr} {B : Hp} : ∀ {vs : List V} {xs : List D} {ns : List Int}, Rps I B vs xs → intsOf xs = some ns → vs = ns.map V.int
  | [], [], ns, _, e => by unfold intsOf at e; cases e; rfl
  | v :: vs, .int i :: xs, ns, r, e => by
    unfold intsOf at e
    cases q : intsOf xs with
    | none => rw [q] at e; cases e
    | some ms =>
      rw [q] at e; cases e
      have h1 : v = .int i := r.1
      rw [h1, intsOf_rps r.2 q]; rfl
  | [], _ :: _, _, r, _ => r.elim
  | _ :: _, [], _, r, _ => r.elim
  | _ :: _, .non :: _, _, _, e => by cases e
  | _ :: _, .bl _ :: _, _, _, e => by cases e
  | _ :: _, .str _ :: _, _, _, e => by cases e
  | _ :: _, .byt _ :: _, _, _, e => by cases e
  | _ :: _, .tup _ :: _, _, _, e => by cases e
  | _ :: _, .lst _ :: _, _, _, e => by cases e
  | _ :: _, .scr _ :: _, _, _, e => by cases e
  | _ :: _, .dct _ _ :: _, _, _, e => by cases e
  | _ :: _, .obj _ _ _ :: _, _, _, e => by cases e
  | _ :: _, .ptr _ :: _, _, _, e => by cases e
  | _ :: _, .ref _ :: _, _, _, e => by cases e
  | _ :: _, .ty _ :: _, _, _, e => by cases e
end CL
set_option Elab.async false
set_option linter.all false
set_option maxRecDepth 100000
namespace CL
open PySem PySem.Spec PyProof.Rows L2
variable [TheK]
variable {L : Tl} {T : Pm} {X : Cx} {W : WX}
section
variable {H0 : Hp} {I J : List Addr} {B H B' H' I0B : Hp} {I0 : List Addr} {s : L2.St} {z : Sl} {S : Store} {i j : Nat} {v : V} {x : D} {a p : Addr} {xs : List D} {vs : List V}
theorem RpM.nt {u : HO} {m : MO} (r : RpM L I B H a u m) : ∀ ps, u ≠ .tbl ps := fun ps e => by
  subst e
  cases m with
  | lst _ => obtain ⟨_, h, _⟩ := r; cases h
  | dct _ _ => obtain ⟨_, h, _⟩ := r; cases h
  | ins _ _ _ => obtain ⟨_, _, h, _⟩ := r; cases h
  | lk _ _ => obtain ⟨_, _, h, _⟩ := r; cases h
  | fn _ => obtain ⟨_, _, _, _, _, _, h, _⟩ := r; unfold LamO at h; cases h
theorem At.len (h : At T H0 I B H s z S) : s.length = z.length := h.sl.len
/-- a slot is stored -/
theorem At.setD (h : At T H0 I B H s z S) (i : Nat) (r : Rp I B v x) : At T H0 I B H (s.set i (some v)) (z.set i (.d x)) S := by
  refine ⟨⟨by simp [h.sl.len], fun j o y h1 h2 => ?_, fun j k b y w h1 h2 h3 h4 o1 o2 => ?_⟩, h.st⟩
  · rw [List.getElem?_set] at h1 h2
    by_cases e : i = j
    · subst e
      rw [if_pos rfl] at h1 h2
      split at h1
      · split at h2
        · cases h1; cases h2
          exact ⟨v, rfl, r⟩
        · cases h2
      · cases h1
    · rw [if_neg e] at h1 h2
      exact h.sl.ok j o y h1 h2
  · have q : ∀ {k : Nat} {w : SV}, (z.set i (.d x))[k]? = some w → isOwn w = true → k ≠ i := fun {k w} e o q => by
      subst q
      rw [List.getElem?_set_self'] at e
      cases t : z[k]? with
      | none => rw [t] at e; cases e
      | some _ => rw [t] at e; cases e; cases o
    have n1 := q h3 o1
    have n2 := q h4 o2
    rw [List.getElem?_set_ne (Ne.symm n1)] at h1 h3
    rw [List.getElem?_set_ne (Ne.symm n2)] at h2 h4
    exact h.sl.ne j k b y w h1 h2 h3 h4 o1 o2
theorem At.setU (h : At T H0 I B H s z S) (i : Nat) (o : Option V) : At T H0 I B H (s.set i o) (z.set i .u) S := by
  refine ⟨⟨by simp [h.sl.len], fun j o' y h1 h2 => ?_, fun j k b y w h1 h2 h3 h4 o1 o2 => ?_⟩, h.st⟩
  · rw [List.getElem?_set] at h1 h2
    by_cases e : i = j
    · subst e
      rw [if_pos rfl] at h1 h2
      split at h1
      · split at h2
        · cases h1; cases h2
          trivial
        · cases h2
      · cases h1
    · rw [if_neg e] at h1 h2
      exact h.sl.ok j o' y h1 h2
  · have q : ∀ {k : Nat} {w : SV}, (z.set i .u)[k]? = some w → isOwn w = true → k ≠ i := fun {k w} e o q => by
      subst q
      rw [List.getElem?_set_self'] at e
      cases t : z[k]? with
      | none => rw [t] at e; cases e
      | some _ => rw [t] at e; cases e; cases o
    have n1 := q h3 o1
    have n2 := q h4 o2
    rw [List.getElem?_set_ne (Ne.symm n1)] at h1 h3
    rw [List.getElem?_set_ne (Ne.symm n2)] at h2 h4
    exact h.sl.ne j k b y w h1 h2 h3 h4 o1 o2
theorem Sto.notIn (st : Sto L I B H S) (hp : H p = none) : p ∉ I := fun ha => by
  obtain ⟨k, hk⟩ := List.mem_iff_getElem?.mp ha
  have hl : k < S.length := by
    have := (List.getElem?_eq_some_iff.mp hk).1
    rw [st.len] at this; exact this
  obtain ⟨b, u, h1, h2, _⟩ := st.at_ k S[k] (List.getElem?_eq_getElem hl)
  rw [hk] at h1; cases h1
  rw [hp] at h2; cases h2
theorem Sto.noB (st : Sto L I B H S) (hp : H p = none) : B p = none := by
  cases q : B p with
  | none => rfl
  | some o => rw [st.sub _ _ q] at hp; cases hp
/-- all stands as it stood: a slot stands -/
theorem SlotOk.keep {T : Pm} {o : Option V} {y : SV} (h : SlotOk T H0 I B H o y) (k : ∀ b u, H b = some u → H' b = some u) : SlotOk T H0 I B H' o y := by
  cases y with
  | u => trivial
  | d x => exact h
  | l xs => obtain ⟨a, vs, e, ha, r, ow⟩ := h; exact ⟨a, vs, e, k _ _ ha, r, ow⟩
  | m ks xs => obtain ⟨a, vs, e, ha, hl, r, ow⟩ := h; exact ⟨a, vs, e, k _ _ ha, hl, r, ow⟩
  | f => obtain ⟨a, I1, B1, H1, h1, h2, h3, h4⟩ := h; exact ⟨a, I1, B1, H1, h1, h2, h3.more k, h4⟩
  | x e => exact h
theorem At.keep (h : At T H0 I B H s z S) (k : ∀ b u, H b = some u → H' b = some u) : At T H0 I B H' s z S :=
  ⟨⟨h.sl.len, fun i o x h1 h2 => (h.sl.ok i o x h1 h2).keep k, h.sl.ne⟩, h.st.mono_H k⟩
theorem own_at {T : Pm} {y : SV} (h : SlotOk T H0 I B H (some (V.ref a)) y) (o : isOwn y = true) : (∃ u, H a = some u ∧ (∀ ps, u ≠ .tbl ps) ∧ ∀ q, u ≠ HO.ext q) ∧ Own H0 I B a := by
  cases y with
  | l xs => obtain ⟨b, vs, e, ha, r, ow⟩ := h; cases e; exact ⟨⟨_, ha, (fun ps z => by cases z), (fun q z => by cases z)⟩, ow⟩
  | m ks xs => obtain ⟨b, vs, e, ha, hl, r, ow⟩ := h; cases e; exact ⟨⟨_, ha, (fun ps z => by cases z), (fun q z => by cases z)⟩, ow⟩
  | u => cases o
  | d x => cases o
  | f => cases o
  | x e => cases o
/-- an own list, an own dict is made -/
theorem At.newOwn (h : At T H0 I B H s z S) (i : Nat) (g0 : Fr H0 p) (hp : H p = none) {o : HO} {y : SV} (ok : SlotOk T H0 I B (upd H p o) (some (.ref p)) y) : At T H0 I B (upd H p o) (s.set i (some (.ref p))) (z.set i y) S := by
  have h' := h.keep (keep_new (o := o) hp)
  refine ⟨⟨by simp [h.sl.len], fun j o' w h1 h2 => ?_, fun j k b w w' h1 h2 h3 h4 o1 o2 => ?_⟩, h'.st⟩
  · rw [List.getElem?_set] at h1 h2
    by_cases e : i = j
    · subst e
      rw [if_pos rfl] at h1 h2
      split at h1
      · split at h2
        · cases h1; cases h2; exact ok
        · cases h2
      · cases h1
    · rw [if_neg e] at h1 h2
      exact h'.sl.ok j o' w h1 h2
  · have q : ∀ {k : Nat} {w : SV}, k ≠ i → (s.set i (some (.ref p)))[k]? = some (some (V.ref b)) → (z.set i y)[k]? = some w → isOwn w = true → b ≠ p := fun {k w} n e1 e2 o => by
      rw [List.getElem?_set_ne (Ne.symm n)] at e1 e2
      obtain ⟨⟨u, hu, _⟩, _⟩ := own_at (h.sl.ok k _ w e1 e2) o
      intro e; subst e; rw [hp] at hu; cases hu
    have self : ∀ {k : Nat}, k = i → (s.set i (some (.ref p)))[k]? = some (some (V.ref b)) → b = p := fun {k} n e1 => by
      subst n
      rw [List.getElem?_set_self'] at e1
      cases t : s[k]? with
      | none => rw [t] at e1; cases e1
      | some _ => rw [t] at e1; cases e1; rfl
    by_cases n1 : j = i
    · by_cases n2 : k = i
      · rw [n1, n2]
      · exact absurd (self n1 h1) (q n2 h2 h4 o2)
    · by_cases n2 : k = i
      · exact absurd (self n2 h2) (q n1 h1 h3 o1)
      · rw [List.getElem?_set_ne (Ne.symm n1)] at h1 h3
        rw [List.getElem?_set_ne (Ne.symm n2)] at h2 h4
        exact h.sl.ne j k b w w' h1 h2 h3 h4 o1 o2
theorem tab_upd {o u : HO} (t : TbOk L H) (ha : H a = some o) (n1 : ∀ ps, o ≠ .tbl ps) (n2 : ∀ f, o ≠ .ext f) : TbOk L (upd H a u) := by
  refine ⟨fun q hq => ?_, fun p hp => ?_⟩
  · obtain ⟨ps, h1, h2, h3⟩ := t.1 q hq
    refine ⟨ps, ?_, h2, fun pos cv e => ?_⟩
    · rw [upd_ne]
      · exact h1
      · intro e; rw [e, ha] at h1; cases h1; exact n1 _ rfl
    · obtain ⟨c, e1, e2⟩ := h3 pos cv e
      refine ⟨c, e1, ?_⟩
      rw [upd_ne]
      · exact e2
      · intro e; rw [e, ha] at e2; cases e2; exact n2 _ rfl
  · have e2 := t.2 p hp
    rw [upd_ne]
    · exact e2
    · intro e; rw [e, ha] at e2; cases e2; exact n2 _ rfl
theorem gr_own (g : Gr I0 I0B H0 I B H) (h0 : Fr H0 a) {u : HO} : Gr I0 I0B H0 I B (upd H a u) where
  pre := g.pre
  ext := g.ext
  new := g.new
  keep := fun b o h n t => by
    have ne : b ≠ a := fun e => by subst e; exact h0.no h t
    rw [upd_ne ne]; exact g.keep b o h n t
  dom := fun b h => by
    by_cases e : b = a
    · exact e ▸ h0
    · exact g.dom b (h.down fun q => (e q).elim)
/-- an own object is written -/
theorem At.setOwn (h : At T H0 I B H s z S) (i : Nat) {o u : HO} {y y' : SV} (hs : s[i]? = some (some (.ref a))) (hz : z[i]? = some y) (oy : isOwn y = true) (ha : H a = some o) (n1 : ∀ ps, o ≠ .tbl ps) (n2 : ∀ f, o ≠ .ext f) (ow : Own H0 I B a)
    (ok : SlotOk T H0 I B (upd H a u) (some (.ref a)) y') : At T H0 I B (upd H a u) s (z.set i y') S := by
  have other : ∀ {k : Nat} {b : Addr} {w : SV}, k ≠ i → s[k]? = some (some (V.ref b)) → z[k]? = some w → isOwn w = true → b ≠ a := fun {k b w} n e1 e2 o3 e => by
    subst e
    exact n (h.sl.ne k i b w y e1 hs e2 hz o3 oy)
  refine ⟨⟨by simp [h.sl.len], fun j o' w h1 h2 => ?_, fun j k b w w' h1 h2 h3 h4 o1 o2 => ?_⟩, ?_⟩
  · rw [List.getElem?_set] at h2
    by_cases e : i = j
    · subst e
      rw [if_pos rfl] at h2
      rw [hs] at h1
      cases h1
      split at h2
      · cases h2; exact ok
      · cases h2
    · rw [if_neg e] at h2
      have q := h.sl.ok j o' w h1 h2
      cases w with
      | u => trivial
      | d x => exact q
      | l xs =>
        obtain ⟨b, vs, rfl, hb, r, ow'⟩ := q
        exact ⟨b, vs, rfl, by rw [upd_ne (other (Ne.symm e) h1 h2 rfl)]; exact hb, r, ow'⟩
      | m ks xs =>
        obtain ⟨b, vs, rfl, hb, hl, r, ow'⟩ := q
        exact ⟨b, vs, rfl, by rw [upd_ne (other (Ne.symm e) h1 h2 rfl)]; exact hb, hl, r, ow'⟩
      | f => obtain ⟨a', I1, B1, H1, h1, h2, h3, h4⟩ := q; exact ⟨a', I1, B1, H1, h1, h2, gr_own h3 (h4 _ ow.1), h4⟩
      | x e => exact q
  · have old : ∀ {k : Nat} {w : SV}, (z.set i y')[k]? = some w → isOwn w = true → ∃ w0, z[k]? = some w0 ∧ isOwn w0 = true := fun {k w} e o3 => by
      by_cases n : k = i
      · subst n; exact ⟨y, hz, oy⟩
      · rw [List.getElem?_set_ne (Ne.symm n)] at e; exact ⟨w, e, o3⟩
    obtain ⟨w0, e1, e2⟩ := old h3 o1
    obtain ⟨w1, e3, e4⟩ := old h4 o2
    exact h.sl.ne j k b w0 w1 h1 h2 e1 e3 e2 e4
  · have st := h.st
    refine ⟨st.len, st.nd, st.dj, fun b w q => ?_, st.nt, fun k m q => ?_, tab_upd st.tb ha n1 n2⟩
    · rw [upd_ne]
      · exact st.sub b w q
      · intro e; subst e; rw [ow.2.1] at q; cases q
    · obtain ⟨b, w, h1, h2, h3⟩ := st.at_ k m q
      refine ⟨b, w, h1, ?_, h3.cod (cod_upd ha n2)⟩
      rw [upd_ne]
      · exact h2
      · intro e; subst e; exact ow.2.2 (List.mem_of_getElem? h1)
theorem gr_write (hI : a ∈ I) {u : HO} (nt : ∀ ps, u ≠ .tbl ps) : Gr I B H I B (upd H a u) where
  pre := ⟨[], by simp, by simp⟩
  ext := fun _ _ h => h
  new := fun _ _ h => .inl h
  keep := fun b o h n t => by
    have ne : b ≠ a := fun e => n (e ▸ hI)
    rw [upd_ne ne]; exact h
  dom := fun b h => h.down fun q => by
    subst q
    exact (h.no upd_same nt).elim
/-- an object of the store is written -/
theorem At.write (h : At T H0 I B H s z S) {o u : HO} {m : MO} (hj : I[j]? = some a) (ha : H a = some o) (n1 : ∀ ps, o ≠ .tbl ps) (n2 : ∀ f, o ≠ .ext f) (r : RpM T.tabs I B H a u m) (n3 : ∀ od w, o ≠ .frz od w := by intro _ _ z; cases z) : At T H0 I B (upd H a u) s z (S.set j m) := by
  have hI : a ∈ I := List.mem_of_getElem? hj
  have st := h.st
  refine ⟨⟨h.sl.len, fun i o' y h1 h2 => ?_, h.sl.ne⟩, by simpa using st.len, st.nd, st.dj, fun b w q => ?_, st.nt, fun k m' q => ?_, tab_upd st.tb ha n1 n2⟩
  · have q := h.sl.ok i o' y h1 h2
    have ne : ∀ {b : Addr}, Own H0 I B b → b ≠ a := fun {b} ow e => by subst e; exact ow.2.2 hI
    cases y with
    | u => trivial
    | d x => exact q
    | l xs => obtain ⟨b, vs, e, hb, r, ow⟩ := q; exact ⟨b, vs, e, by rw [upd_ne (ne ow)]; exact hb, r, ow⟩
    | m ks xs => obtain ⟨b, vs, e, hb, hl, r, ow⟩ := q; exact ⟨b, vs, e, by rw [upd_ne (ne ow)]; exact hb, hl, r, ow⟩
    | f =>
      obtain ⟨a', I1, B1, H1, e1, e2, e3, e4⟩ := q
      exact ⟨a', I1, B1, H1, e1, e2, e3.trans (gr_write hI r.nt), e4⟩
    | x e => exact q
  · rw [upd_ne]
    · exact st.sub b w q
    · intro e; subst e
      obtain ⟨od, x, rfl⟩ := st.dj b hI _ q
      have := st.sub _ _ q
      rw [ha] at this; cases this
      exact n3 _ _ rfl
  · rw [List.getElem?_set] at q
    by_cases e : j = k
    · subst e
      rw [if_pos rfl] at q
      split at q
      · cases q
        exact ⟨a, u, hj, upd_same, r.cod (cod_upd ha n2)⟩
      · cases q
    · rw [if_neg e] at q
      obtain ⟨b, w, h1, h2, h3⟩ := st.at_ k m' q
      refine ⟨b, w, h1, ?_, h3.cod (cod_upd ha n2)⟩
      rw [upd_ne]
      · exact h2
      · intro q; subst q
        exact e ((List.getElem?_inj (List.getElem?_eq_some_iff.mp hj).1 st.nd).mp (hj.trans h1.symm))
theorem gr_grow (st : Sto L I B H S) (hp : H p = none) {u : HO} : Gr I B H (I ++ [p]) B (upd H p u) where
  pre := ⟨[p], rfl, fun a ha => by
    have : a = p := by simpa using ha
    subst this; exact .of hp⟩
  ext := fun _ _ h => h
  new := fun _ _ h => .inl h
  keep := fun b o h _ _ => keep_new hp b o h
  dom := fun b h => h.down fun q => by subst q; exact .of hp
/-- a new object of the store -/
theorem At.grow (h : At T H0 I B H s z S) {u : HO} {m : MO} (hp : H p = none) (r : RpM T.tabs (I ++ [p]) B H p u m) : At T H0 (I ++ [p]) B (upd H p u) s z (S ++ [m]) := by
  have st := h.st
  have hpI := st.notIn hp
  have k := keep_new (o := u) hp
  refine ⟨⟨h.sl.len, fun i o y h1 h2 => ?_, h.sl.ne⟩, by simp [st.len], ?_, fun b hb => ?_, fun b w q => k _ _ (st.sub b w q), st.nt, fun i m' q => ?_, st.tb.ext k⟩
  · have q := (h.sl.ok i o y h1 h2).keep k
    have ow' : ∀ {b : Addr} {w : HO}, H b = some w → Own H0 I B b → Own H0 (I ++ [p]) B b := fun {b w} hb ow => ⟨ow.1, ow.2.1, fun hm => by
      rcases List.mem_append.mp hm with e | e
      · exact ow.2.2 e
      · have e' : b = p := by simpa using e
        subst e'; rw [hp] at hb; cases hb⟩
    have q0 := h.sl.ok i o y h1 h2
    cases y with
    | u => trivial
    | d x => obtain ⟨v, e, r⟩ := q; exact ⟨v, e, Rp.mono ⟨[p], rfl⟩ (fun _ _ h => h) x r⟩
    | l xs =>
      obtain ⟨b, vs, e, hb, r, ow⟩ := q0
      exact ⟨b, vs, e, k _ _ hb, r.mono ⟨[p], rfl⟩ (xs := xs) fun _ _ h => h, ow' hb ow⟩
    | m ks xs =>
      obtain ⟨b, vs, e, hb, hl, r, ow⟩ := q0
      exact ⟨b, vs, e, k _ _ hb, hl, r.mono ⟨[p], rfl⟩ (xs := xs) fun _ _ h => h, ow' hb ow⟩
    | f =>
      obtain ⟨a', I1, B1, H1, e1, e2, e3, e4⟩ := q0
      exact ⟨a', I1, B1, H1, e1, e2, e3.trans (gr_grow st hp), e4⟩
    | x e =>
      obtain ⟨a, d, h1, h2, h3⟩ := q
      exact ⟨a, d, h1, h2, h3.mono ⟨[p], rfl⟩ fun _ _ h => h⟩
  · rw [List.nodup_append]
    exact ⟨st.nd, by simp, fun b hb c hc => by
      have : c = p := by simpa using hc
      subst this
      intro e; subst e; exact hpI hb⟩
  · rcases List.mem_append.mp hb with e | e
    · exact st.dj b e
    · have : b = p := by simpa using e
      subst this; exact fun o q => by rw [st.noB hp] at q; cases q
  · by_cases hi : i < S.length
    · rw [List.getElem?_append_left hi] at q
      obtain ⟨b, w, h1, h2, h3⟩ := st.at_ i m' q
      exact ⟨b, w, by rw [List.getElem?_append_left (by rw [st.len]; exact hi)]; exact h1, k _ _ h2, (h3.mono ⟨[p], rfl⟩ fun _ _ h => h).cod fun _ _ => k _ _⟩
    · have hl := (List.getElem?_eq_some_iff.mp q).1
      have e : i = S.length := by simp at hl; omega
      subst e
      simp at q
      subst q
      exact ⟨p, u, by rw [← st.len]; simp, upd_same, r.cod fun _ _ => k _ _⟩
end
end CL
set_option Elab.async false
set_option linter.all false
set_option maxRecDepth 100000
namespace CL
open PySem PySem.Spec PyProof.Rows L2
variable [TheK]
variable {L : Tl} {T : Pm} {X : Cx} {W : WX}
/-- what never shrinks -/
structure GB (I : List Addr) (B : Hp) (J : List Addr) (B' : Hp) : Prop where
  sub : ∃ k, J = I ++ k
  ext : ∀ a o, B a = some o → B' a = some o
theorem GB.rfl {I : List Addr} {B : Hp} : GB I B I B := ⟨⟨[], by simp⟩, fun _ _ h => h⟩
theorem GB.trans {I J L : List Addr} {B B' B2 : Hp} (g : GB I B J B') (k : GB J B' L B2) : GB I B L B2 := by
  obtain ⟨k1, rfl⟩ := g.sub
  obtain ⟨k2, rfl⟩ := k.sub
  exact ⟨⟨k1 ++ k2, by simp⟩, fun a o h => k.ext a o (g.ext a o h)⟩
theorem Gr.gb {I J : List Addr} {B B' H H' : Hp} (g : Gr I B H J B' H') : GB I B J B' := ⟨g.sub, g.ext⟩
section
variable (T) (I0 : List Addr) (B0 H0 : Hp) (W : WX) (I : List Addr) (B : Hp)
def FinS (D : Ends) : O → Prop
  | .nx z S => ∀ J B' H s, Gr I0 B0 H0 J B' H → GB I B J B' → At T H0 J B' H s z S → D.nx s H
  | .bk z S => ∀ J B' H s, Gr I0 B0 H0 J B' H → GB I B J B' → At T H0 J B' H s z S → D.bk s H
  | .ct z S => ∀ J B' H s, Gr I0 B0 H0 J B' H → GB I B J B' → At T H0 J B' H s z S → D.ct s H
  | .rt d S => ∀ J B' H v, Gr I0 B0 H0 J B' H → GB I B J B' → Sto T.tabs J B' H S → Rp J B' v d → D.rt v H
  | .exc x z S => ∀ J B' H s c dd, Gr I0 B0 H0 J B' H → GB I B J B' → At T H0 J B' H s z S → RpX J B' c dd x → W c dd s H
  | .bad => False
end
section
variable (T) (I0 : List Addr) (B0 H0 : Hp) (W : WX)
def rdS (c : CS) : TS := fun D s H => ∃ I B z S, Gr I0 B0 H0 I B H ∧ At T H0 I B H s z S ∧ FinS T I0 B0 H0 W I B D (c z S)
end
theorem FinS.gb {I0 : List Addr} {B0 H0 : Hp} {I J : List Addr} {B B' : Hp} {En : Ends} {o : O} (h : FinS T I0 B0 H0 W I B En o) (g : GB I B J B') : FinS T I0 B0 H0 W J B' En o := by
  cases o with
  | nx z S => exact fun J2 B2 H s g0 g2 => h J2 B2 H s g0 (g.trans g2)
  | bk z S => exact fun J2 B2 H s g0 g2 => h J2 B2 H s g0 (g.trans g2)
  | ct z S => exact fun J2 B2 H s g0 g2 => h J2 B2 H s g0 (g.trans g2)
  | rt d S => exact fun J2 B2 H v g0 g2 => h J2 B2 H v g0 (g.trans g2)
  | exc x z S => exact fun J2 B2 H s c dd g0 g2 => h J2 B2 H s c dd g0 (g.trans g2)
  | bad => exact h
section
variable {I0 : List Addr} {B0 H0 : Hp} {I : List Addr} {B H : Hp} {s : L2.St} {z : Sl} {S : Store} {D : Ends}
/-- a piece within a statement -/
theorem sdo {α β : Type} {rep : List Addr → Hp → β → α → Prop} {ca : C α} {f : α → Store → O} {P : β → Hp → Prop} (g0 : Gr I0 B0 H0 I B H) (a : At T H0 I B H s z S) (h : FinS T I0 B0 H0 W I B D (oDo (ca z S) z f))
    (k : ∀ J B' H' S' v x, Gr I0 B0 H0 J B' H' → Gr I B H J B' H' → At T H0 J B' H' s z S' → rep J B' v x → FinS T I0 B0 H0 W J B' D (f x S') → P v H') : rd T rep W ca s H P := by
  refine ⟨H0, I, B, z, S, a, ?_⟩
  cases e : ca z S with
  | ok x S' =>
    rw [e] at h
    exact fun J B' H' v g st r => k J B' H' S' v x (g0.trans g) g (a.gr g st) r (h.gb g.gb)
  | exc x S' =>
    rw [e] at h
    exact fun J B' H' c dd g st r => h J B' H' s c dd (g0.trans g) g.gb (a.gr g st) r
  | bad =>
    rw [e] at h
    exact h.elim
variable {e : Expr} {ce : CE} {pos : Pos} {st : Stmt} {rest : List Stmt} {c c2 : CS}
theorem s_nil : PSs X [] (rdS T I0 B0 H0 W sNil) := by
  refine pss_imp pss_nil ?_
  rintro D s H ⟨I, B, z, S, g, a, f⟩
  exact f I B H s g GB.rfl a
theorem s_one (h1 : PS X st (rdS T I0 B0 H0 W c)) : PSs X [st] (rdS T I0 B0 H0 W c) := pss_one h1
theorem s_cons (h1 : PS X st (rdS T I0 B0 H0 W c)) (h2 : PSs X rest (rdS T I0 B0 H0 W c2)) : PSs X (st :: rest) (rdS T I0 B0 H0 W (sSeq c c2)) := by
  refine pss_imp (pss_cons h1 h2) ?_
  rintro D s H ⟨I, B, z, S, g, a, f⟩
  refine ⟨I, B, z, S, g, a, ?_⟩
  unfold sSeq at f
  cases q : c z S with
  | nx z' S' =>
    rw [q] at f
    exact fun J B' H' s' g' gb a' => ⟨J, B', z', S', g', a', FinS.gb f gb⟩
  | rt d S' => rw [q] at f; exact f
  | bk z' S' => rw [q] at f; exact f
  | ct z' S' => rw [q] at f; exact f
  | exc x z' S' => rw [q] at f; exact f
  | bad => rw [q] at f; exact f
theorem s_expr (he : PE X e (rdE T W ce)) (hs : swapsWith e none pos.line X.env = pure false := by rfl) : PS X (.Expr e pos) (rdS T I0 B0 H0 W (sExpr ce)) := by
  refine ps_imp (ps_expr he hs) ?_
  rintro D s H ⟨I, B, z, S, g, a, f⟩
  exact sdo (rep := Rp) g a f fun J B' H' S' v x g0 g1 a1 r1 f1 => f1 J B' H' s g0 GB.rfl a1
theorem s_ret (he : PE X e (rdE T W ce)) : PS X (.Return (some e) pos) (rdS T I0 B0 H0 W (sRet ce)) := by
  refine ps_imp (ps_ret he) ?_
  rintro D s H ⟨I, B, z, S, g, a, f⟩
  exact sdo (rep := Rp) g a f fun J B' H' S' v x g0 g1 a1 r1 f1 => f1 J B' H' v g0 GB.rfl a1.st r1
theorem s_if {cnd : Expr} {b1 b2 : List Stmt} {t : CT} (hc : PT X cnd (rdT T W t)) (ha : PSs X b1 (rdS T I0 B0 H0 W c)) (hb : PSs X b2 (rdS T I0 B0 H0 W c2)) : PS X (.If cnd b1 b2 pos) (rdS T I0 B0 H0 W (sIf t c c2)) := by
  refine ps_imp (ps_if hc ha hb) ?_
  rintro D s H ⟨I, B, z, S, g, a, f⟩
  refine sdo (rep := rB) g a f fun J B' H' S' v x g0 g1 a1 r1 f1 => ?_
  cases r1
  cases v with
  | true => exact ⟨J, B', z, S', g0, a1, f1⟩
  | false => exact ⟨J, B', z, S', g0, a1, f1⟩
theorem s_set {i : Nat} {x : Str} {pos' : Pos} (hN : X.N.Nodup) (hi : X.N[i]? = some x) (hx : Loc X.env.scope x) (he : PE X e (rdE T W ce)) (hs : swapsWith e (some (.Name x pos')) pos.line X.env = pure false := by rfl) (hf : X.fn x = true ∨ X.env.scope.names.lookup x = some .local := by first | exact .inl rfl | exact .inr rfl | assumption) :
    PS X (.Assign [.Name x pos'] e pos) (rdS T I0 B0 H0 W (sSet i ce)) := by
  refine ps_imp (ps_set hN hi hx he hs hf) ?_
  rintro D s H ⟨I, B, z, S, g, a, f⟩
  exact sdo (rep := Rp) g a f fun J B' H' S' v x g0 g1 a1 r1 f1 => f1 J B' H' _ g0 GB.rfl (a1.setD i r1)
/-- the statement's state, an own list laid down for good -/
theorem s_frz {i : Nat} (h : PS X st (rdS T I0 B0 H0 W c)) : PS X st (rdS T I0 B0 H0 W (sFrz i c)) := by
  refine ps_imp h ?_
  rintro D s H ⟨I, B, z, S, g, a, f⟩
  unfold sFrz at f
  split at f
  · rename_i xs e
    obtain ⟨o, hs, b, vs, rfl, hb, r, ow⟩ := a.sl.get e
    have hB : ∀ c u, B c = some u → upd B b (.lst vs) c = some u := fun c u h => by
      have : c ≠ b := fun q => by subst q; rw [ow.2.1] at h; cases h
      rw [upd_ne this]; exact h
    have g' : Gr I0 B0 H0 I (upd B b (.lst vs)) H := ⟨g.pre, fun c u h => hB c u (g.ext c u h), fun c u h => by
      by_cases q : c = b
      · exact .inr (q ▸ ow.1)
      · rw [upd_ne q] at h; exact g.new c u h, g.keep, g.dom⟩
    have r' : Rps I (upd B b (.lst vs)) vs xs := r.mono ⟨[], by simp⟩ (xs := xs) hB
    refine ⟨I, upd B b (.lst vs), z.set i (.d (.lst xs)), S, g', ?_, f.gb ⟨⟨[], by simp⟩, hB⟩⟩
    have so := a.st
    refine ⟨⟨by simp [a.sl.len], fun j o' y h1 h2 => ?_, fun j k c' y w h1 h2 h3 h4 o1 o2 => ?_⟩, so.len, so.nd, fun c hc => ?_, fun c u h => ?_, fun c u h => ?_, fun j m h => ?_, so.tb⟩
    · rw [List.getElem?_set] at h2
      by_cases q : i = j
      · subst q
        rw [if_pos rfl] at h2
        split at h2
        · cases h2
          rw [hs] at h1; cases h1
          exact ⟨_, rfl, b, vs, rfl, upd_same, r'⟩
        · cases h2
      · rw [if_neg q] at h2
        have p := a.sl.ok j o' y h1 h2
        have ne : ∀ {c' : Addr}, s[j]? = some (some (V.ref c')) → isOwn y = true → c' ≠ b := fun {c'} hc o3 e3 => by
          subst e3
          exact q (a.sl.ne i j c' _ y hs hc e h2 rfl o3)
        cases y with
        | u => trivial
        | d x => obtain ⟨v, e1, r1⟩ := p; exact ⟨v, e1, Rp.mono ⟨[], by simp⟩ hB x r1⟩
        | l ys =>
          obtain ⟨c', ws, rfl, hc, r1, ow1⟩ := p
          exact ⟨c', ws, rfl, hc, r1.mono ⟨[], by simp⟩ (xs := ys) hB, ow1.1, by rw [upd_ne (ne h1 rfl)]; exact ow1.2.1, ow1.2.2⟩
        | m ks ys =>
          obtain ⟨c', ws, rfl, hc, hl, r1, ow1⟩ := p
          exact ⟨c', ws, rfl, hc, hl, r1.mono ⟨[], by simp⟩ (xs := ys) hB, ow1.1, by rw [upd_ne (ne h1 rfl)]; exact ow1.2.1, ow1.2.2⟩
        | f => obtain ⟨a', I1, B1, H1, e1, e2, e3, e4⟩ := p; exact ⟨a', I1, B1, H1, e1, e2, e3.lay (e4 _ ow.1) ow.2.1, e4⟩
        | x e =>
          obtain ⟨a', d', h1, h2, h3⟩ := p
          exact ⟨a', d', h1, h2, h3.mono ⟨[], by simp⟩ hB⟩
    · have q : ∀ {k : Nat} {w : SV}, (z.set i (.d (.lst xs)))[k]? = some w → isOwn w = true → k ≠ i := fun {k w} e o q => by
        subst q
        rw [List.getElem?_set_self'] at e
        cases t : z[k]? with
        | none => rw [t] at e; cases e
        | some _ => rw [t] at e; cases e; cases o
      have n1 := q h3 o1
      have n2 := q h4 o2
      rw [List.getElem?_set_ne (Ne.symm n1)] at h3
      rw [List.getElem?_set_ne (Ne.symm n2)] at h4
      exact a.sl.ne j k c' y w h1 h2 h3 h4 o1 o2
    · have : c ≠ b := fun q => ow.2.2 (q ▸ hc)
      rw [upd_ne this]; exact so.dj c hc
    · by_cases q : c = b
      · subst q; rw [upd_same] at h; cases h; exact hb
      · rw [upd_ne q] at h; exact so.sub c u h
    · by_cases q : c = b
      · subst q; rw [upd_same] at h; cases h; exact fun ps z => by cases z
      · rw [upd_ne q] at h; exact so.nt c u h
    · obtain ⟨c, u, h1, h2, h3⟩ := so.at_ j m h
      exact ⟨c, u, h1, h2, h3.mono ⟨[], by simp⟩ hB⟩
  · exact f.elim
variable (T) in
def rdG (H0 : Hp) (g : Tg) : TG := fun v s H Q => ∃ I B z S d, At T H0 I B H s z S ∧ Rp I B v d ∧ match g d z with
  | some z' => ∀ s', At T H0 I B H s' z' S → Q s' H
  | none => False
variable (T) in
def rdGs (H0 : Hp) (g : Tgs) : TGs := fun vs s H Q => ∃ I B z S ds, At T H0 I B H s z S ∧ Rps I B vs ds ∧ match g ds z with
  | some z' => ∀ s', At T H0 I B H s' z' S → Q s' H
  | none => False
theorem pg_imp {tg : Expr} {t t' : TG} (h : PG X tg t) (k : ∀ v s H Q, t' v s H Q → t v s H Q) : PG X tg t' := ⟨fun pins s σ H v u Q I r hq => h.run pins s σ H v u Q I r (k _ _ _ _ hq)⟩
theorem pgs_imp {tg : List Expr} {t t' : TGs} (h : PGs X tg t) (k : ∀ v s H Q, t' v s H Q → t v s H Q) : PGs X tg t' := ⟨fun pins s σ H v u Q I r hq => h.run pins s σ H v u Q I r (k _ _ _ _ hq)⟩
theorem g_name {i : Nat} {x : Str} (hN : X.N.Nodup) (hi : X.N[i]? = some x) (hx : Loc X.env.scope x) (hf : X.fn x = true ∨ X.env.scope.names.lookup x = some .local := by first | exact .inl rfl | exact .inr rfl | assumption) : PG X (.Name x pos) (rdG T H0 (gN i)) := by
  refine pg_imp (pg_name hN hi hx hf) ?_
  rintro v s H Q ⟨I, B, z, S, d, a, r, f⟩
  exact f _ (a.setD i r)
theorem g_nil : PGs X [] (rdGs T H0 gNil) := by
  refine pgs_imp pgs_nil ?_
  rintro vs s H Q ⟨I, B, z, S, ds, a, r, f⟩
  unfold gNil at f
  match ds, vs, r with
  | [], [], _ => exact ⟨rfl, f s a⟩
theorem g_cons {tg : Expr} {tgs : List Expr} {g : Tg} {gs : Tgs} (h1 : PG X tg (rdG T H0 g)) (h2 : PGs X tgs (rdGs T H0 gs))
    (hs : (assignEach (tg :: tgs) X.env).map (·.2) = assign tg X.env :: (assignEach tgs X.env).map (·.2) := by rfl) : PGs X (tg :: tgs) (rdGs T H0 (gCons g gs)) := by
  refine pgs_imp (pgs_cons h1 h2 hs) ?_
  rintro vs s H Q ⟨I, B, z, S, ds, a, r, f⟩
  match ds, vs, r with
  | d :: ds, v :: vs, r =>
    refine ⟨v, vs, rfl, I, B, z, S, d, a, r.1, ?_⟩
    unfold gCons at f
    dsimp only at f
    cases q : g d z with
    | none => rw [q] at f; exact f
    | some z1 =>
      rw [q] at f
      dsimp only
      intro s' a'
      exact ⟨I, B, z1, S, ds, a', r.2, f⟩
  | [], _, _ => exact f.elim
theorem g_tup {es : List Expr} {k : Nat} {gs : Tgs} {n : Nat} (hc : X.calm = true) (h : PGs X es (rdGs T H0 gs)) (hn : (assignEach es X.env).length = n := by rfl) (hst : (assignEach es X.env).findIdx? (·.1) = none := by rfl) : PG X (.Tuple es k pos) (rdG T H0 (CL.gTup n gs)) := by
  refine pg_imp (pg_tup hc h hn hst) ?_
  rintro v s H Q ⟨I, B, z, S, d, a, r, f⟩
  unfold CL.gTup at f
  cases d with
  | tup xs =>
    obtain ⟨b, vs, rfl, hb, _, rv⟩ := Rp.tup a.st r
    dsimp only at f
    by_cases hl : xs.length = n
    · rw [if_pos hl] at f
      exact ⟨b, vs, rfl, SqT.of hb, by rw [rv.len]; exact hl, I, B, z, S, xs, a, rv, f⟩
    · rw [if_neg hl] at f; exact f.elim
  | _ => exact f.elim
theorem s_asg {tg : Expr} {g : Tg} (he : PE X e (rdE T W ce)) (hg : PG X tg (rdG T H0 g)) (hs : swapsWithSole [tg] e pos.line X.env = pure false := by rfl) (hw : swappedStores [tg] e X.env = pure none := by rfl)
    (h1 : (assignEach [tg] X.env).map (·.2) = [assign tg X.env] := by rfl) : PS X (.Assign [tg] e pos) (rdS T I0 B0 H0 W (sAsg ce g)) := by
  refine ps_imp (ps_asg he hg hs hw h1) ?_
  rintro D s H ⟨I, B, z, S, g', a, f⟩
  refine sdo (rep := Rp) g' a f fun J B' H' S' v x g0 g1 a1 r1 f1 => ?_
  refine ⟨J, B', z, S', x, a1, r1, ?_⟩
  cases q : g x z with
  | none => rw [q] at f1; exact f1
  | some z1 =>
    rw [q] at f1
    exact fun s' a' => f1 J B' H' s' g0 GB.rfl a'
theorem s_par {i j : Nat} {x y : Str} {a b : Expr} {ca : CA} {px py pt : Pos} {kt k2 pt2} (hc : X.calm = true) (hN : X.N.Nodup) (hi : X.N[i]? = some x) (hj : X.N[j]? = some y) (hij : i ≠ j)
    (hx : X.env.scope.names.lookup x = some .local) (hy : X.env.scope.names.lookup y = some .local) (ha : PA X [a, b] (rdA T W ca))
    (hw : swappedStores [.Tuple [.Name x px, .Name y py] kt pt] (.Tuple [a, b] k2 pt2) X.env = pure (some [x, y]))
    (hs : swapsWithSole [.Tuple [.Name x px, .Name y py] kt pt] (.Tuple [a, b] k2 pt2) pos.line X.env = pure false := by rfl) :
    PS X (.Assign [.Tuple [.Name x px, .Name y py] kt pt] (.Tuple [a, b] k2 pt2) pos) (rdS T I0 B0 H0 W (sPar i j ca)) := by
  refine ps_imp (ps_par hc hN hi hj hij hx hy ha hw hs) ?_
  rintro D s H ⟨I, B, z, S, g', a, f⟩
  refine sdo (rep := Rps) g' a f fun J B' H' S' vs xs g0 g1 a1 r1 f1 => ?_
  match xs, f1 with
  | [x, y], f1 =>
    obtain ⟨v, u, rfl, rv, ru⟩ := r1.two
    exact ⟨v, u, rfl, f1 J B' H' _ g0 GB.rfl ((a1.setD i rv).setD j ru)⟩
  | [], f1 => exact f1.elim
  | [_], f1 => exact f1.elim
  | _ :: _ :: _ :: _, f1 => exact f1.elim
end
end CL
set_option Elab.async false
set_option linter.all false
set_option maxRecDepth 100000
namespace CL
open PySem PySem.Spec PyProof.Rows L2
variable [TheK]
variable {L : Tl} {T : Pm} {X : Cx} {W : WX}
abbrev kW (E : XK) : WX := fun c d _ H => E c d H
/-- the promise «it does what g tells» -/
def spG (L : Tl) (n : Nat) (g : G) : Sp := fun vs H Q E => ∃ I B S ds, vs.length = n ∧ Rps I B vs ds ∧ Sto L I B H S ∧ Fin L Rp (kW E) [] I B H Q (g ds S)
abbrev FnC (P : Program) (w : World) (K : PySem.W.Frag) (mg : Str → Option Value) (base : Heap) (L : Tl) (k : Nat) (f : Addr) (fd : FuncData) (ps : List Str) (g : G) : Prop := FnOk P w K mg base (L2.CX P w) k f fd ps (spG L ps.length g)
theorem start_at {I : List Addr} {B H : Hp} {S : Store} {vs : List V} {ds : List D} (N : List Str) (st : Sto L I B H S) (r : Rps I B vs ds) : At ⟨L, none, none⟩ H I B H (L2.start N vs) (ds.map SV.d ++ List.replicate (N.length - ds.length) SV.u) S := by
  have hl := r.len
  refine ⟨⟨by unfold L2.start; simp [hl], fun i o x h1 h2 => ?_, fun i j a x y h1 h2 h3 h4 o1 o2 => ?_⟩, st⟩
  · unfold L2.start at h1
    by_cases hi : i < ds.length
    · rw [List.getElem?_append_left (by simpa using hi), List.getElem?_map] at h2
      cases q : ds[i]? with
      | none => rw [q] at h2; cases h2
      | some d =>
        rw [q] at h2; cases h2
        obtain ⟨v, e1, e2⟩ := r.get q
        rw [List.getElem?_append_left (by simpa [hl] using hi), List.getElem?_map, e1] at h1
        cases h1
        exact ⟨v, rfl, e2⟩
    · rw [List.getElem?_append_right (by simpa using hi), List.getElem?_replicate] at h2
      split at h2
      · cases h2; trivial
      · cases h2
  · have no : ∀ {k : Nat} {w : SV}, (ds.map SV.d ++ List.replicate (N.length - ds.length) SV.u)[k]? = some w → isOwn w = true → False := fun {k w} e o => by
      by_cases hi : k < ds.length
      · rw [List.getElem?_append_left (by simpa using hi), List.getElem?_map] at e
        cases q : ds[k]? with
        | none => rw [q] at e; cases e
        | some d => rw [q] at e; cases e; cases o
      · rw [List.getElem?_append_right (by simpa using hi), List.getElem?_replicate] at e
        split at e
        · cases e; cases o
        · cases e
    exact (no h3 o1).elim
section
variable {P : Program} {w : World} {K : PySem.W.Frag} {mg : Str → Option Value} {base : Heap} {x qual : Str} {st : Stmt} {f : Addr} {fd : FuncData} {N ps : List Str} {k : Nat} {c : CS}
/-- THE RULE: a def does what its body's piece does -/
theorem fn_c (F : Fun K x qual st f fd) (S : FnScope N ps (defScope st))
    (hb : ∀ (cdv : Value) (A : Around) (outer : List Env) (s : Shared) (H : Hp) (E : XK) (I0 : List Addr) (B0 : Hp), Room k (A.deeper (envOfC qual (defScope st) s.heap.objs.size f cdv)) →
      PSs (cxOf (L2.CX P w) P w K mg base N qual (defScope st) f cdv A outer s H E) (defBody st) (rdS ⟨L, none, none⟩ I0 B0 H (kW E) c)) :
    FnC P w K mg base L (k + 1) f fd ps (run N.length c) := by
  refine F.okX S (fun vs H Q E h => ?_) (fun cdv A outer s H vs Q E hr h => ?_)
  · obtain ⟨I, B, S, ds, hl, _⟩ := h
    exact hl
  · obtain ⟨I, B, S, ds, hl, r, st', f⟩ := h
    refine ⟨_, hb cdv A outer s H E I B hr, I, B, _, S, Gr.refl I B H, start_at N st' r, ?_⟩
    unfold run at f
    cases q : c (ds.map SV.d ++ List.replicate (N.length - ds.length) SV.u) S with
    | nx z' S' => rw [q] at f; exact fun J B' H' s' g gb a => f J B' H' .non g a.st rfl
    | rt d S' => rw [q] at f; exact fun J B' H' v g gb st r => f J B' H' v g st r
    | exc x z' S' => rw [q] at f; exact fun J B' H' s' cc dd g gb a r => f J B' H' cc dd g a.st r
    | bk z' S' => rw [q] at f; exact f.elim
    | ct z' S' => rw [q] at f; exact f.elim
    | bad => rw [q] at f; exact f.elim
/-- a weaker promise: where g' tells something, g tells the same -/
theorem FnC.imp {g g' : G} (F : FnC P w K mg base L k f fd ps g) (h : ∀ ds S, g' ds S = g ds S ∨ g' ds S = .bad) : FnC P w K mg base L k f fd ps g' :=
  FnOk.imp F fun vs H Q E ⟨I, B, S, ds, hl, r, st, f⟩ => ⟨I, B, S, ds, hl, r, st, by
    rcases h ds S with e | e
    · rw [← e]; exact f
    · rw [e] at f; exact f.elim⟩
end
/-- what the caller wishes -/
theorem call_sp {E : XK} {I : List Addr} {B H H0 : Hp} {S : Store} {vs : List V} {ds : List D} {s : L2.St} {z : Sl} {Q : VK} {n : Nat} {g : G} (hl : vs.length = n) (a : At T H0 I B H s z S) (r : Rps I B vs ds) (f : Fin T.tabs Rp W s I B H Q (g ds S)) (hW : ∀ c d H, W c d s H → E c d H) :
    spG T.tabs n g vs H Q E := by
  refine ⟨I, B, S, ds, hl, r, a.st, ?_⟩
  cases q : g ds S with
  | ok d S' => rw [q] at f; exact f
  | exc x S' => rw [q] at f; exact fun J B' H' c dd g st rx => hW _ _ _ (f J B' H' c dd g st rx)
  | bad => rw [q] at f; exact f
section
variable {k : Nat} {f C : Addr} {fd : FuncData} {ps : List Str} {g : G} {x m : Str} {p pos apos : Pos} {e o : Expr} {es : List Expr} {co : CE} {ca : CA} {E : XK}
def AN (ca : CA) (n : Nat) : Prop := ∀ z S xs S', ca z S = .ok xs S' → xs.length = n
theorem an0 : AN aNil 0 := fun z S xs S' h => by unfold aNil at h; cases h; rfl
theorem an1 {c : CE} {r : CA} {n : Nat} (h : AN r n) : AN (aCons c r) (n + 1) := fun z S xs S' e => by
  unfold aCons at e
  cases q : c z S with
  | ok x S1 =>
    rw [q] at e
    simp only [R.bind] at e
    cases q2 : r z S1 with
    | ok ys S2 =>
      rw [q2] at e
      cases e
      simp [h _ _ _ _ q2]
    | exc _ _ => rw [q2] at e; cases e
    | bad => rw [q2] at e; cases e
  | exc _ _ => rw [q] at e; cases e
  | bad => rw [q] at e; cases e
/-- f(e, ..) -/
theorem e_call (F : FnC X.prog X.w X.K X.mg X.base T.tabs k f fd ps g) (hr : Room k X.A) (hg : Gl X x) (hm : X.mg x = some (.ref f)) (hk : PySem.W.keepIn X.K (.ref f) = true) (hb : Binds X.K fd ps []) (tk : Takes X W)
    (ha : PA X (e :: es) (rdA T W ca)) (hn : AN ca ps.length) (hdb : (x == ("__debug__" : Str)) = false := by decide) (he : starEach (e :: es) X.env = (false, eval e X.env) :: starEach es X.env := by rfl)
    (hpl : (backTo pos (starEach es X.env)).any (·.1) = false := by rfl) : PE X (.Call (.Name x p) (e :: es) [] pos) (rdE T W (cCall g ca)) := by
  refine pe_imp (pe_callS (E := WE W) F hr hg hm hk hb (fun σ => passAt tk σ) ha hdb he hpl) ?_
  rintro s H Q ⟨H0, I, B, z, S, a, h⟩
  have hn' := hn z S
  unfold cCall cApp at h
  cases q : ca z S with
  | ok xs S' =>
    refine ⟨H0, I, B, z, S, a, ?_⟩
    rw [q] at h ⊢
    exact fun J B' H' v g' st r => call_sp (by rw [r.len]; exact hn' xs S' q) (a.gr g' st) r (h.gr g') fun _ _ _ h => h
  | exc x S' =>
    refine ⟨H0, I, B, z, S, a, ?_⟩
    rw [q] at h ⊢
    exact h
  | bad => rw [q] at h; exact h.elim
/-- an instance, tracked -/
theorem insOf {I : List Addr} {B H : Hp} {S : Store} {v : V} {d : D} {C' : Addr} {ns : List Str} (st : Sto L I B H S) (r : Rp I B v d) (e : classOf S d = some (C', ns)) :
    ∃ a dx vs xs, v = .ref a ∧ H a = some (.ins C' dx (ns.zip vs)) ∧ ns.length = vs.length ∧ Rps I B vs xs ∧ ∀ fl, fieldOf S d fl = (ns.zip xs).lookup fl := by
  unfold classOf at e
  split at e
  · cases e
    obtain ⟨a, dx, vs, rfl, h, hl, rv⟩ := r
    exact ⟨a, dx, vs, _, rfl, st.sub _ _ h, hl, rv, fun fl => rfl⟩
  · split at e
    · rename_i q
      cases e
      obtain ⟨a, o, rfl, _, h, dx, vs, rfl, hl, rv⟩ := Rp.ptr st r q
      exact ⟨a, dx, vs, _, rfl, h, hl, rv, fun fl => by unfold fieldOf; simp only [q]⟩
    · cases e
  · cases e
theorem lookup_rps {I : List Addr} {B : Hp} {fl : Str} : ∀ {ns : List Str} {vs : List V} {xs : List D} {d : D}, ns.length = vs.length → Rps I B vs xs → (ns.zip xs).lookup fl = some d → ∃ v, (ns.zip vs).lookup fl = some v ∧ Rp I B v d
  | [], vs, xs, d, hl, r, e => by cases e
  | n :: ns, [], xs, d, hl, r, e => by cases hl
  | n :: ns, v :: vs, [], d, hl, r, e => by cases e
  | n :: ns, v :: vs, x :: xs, d, hl, r, e => by
    by_cases q : fl = n
    · subst q
      simp [List.lookup] at e
      subst e
      exact ⟨v, by simp [List.lookup], r.1⟩
    · have q' : (fl == n) = false := by simpa using q
      have e' : List.lookup fl (ns.zip xs) = some d := by simpa [List.lookup, q'] using e
      obtain ⟨u, h1, h2⟩ := lookup_rps (by simpa using hl) r.2 e'
      exact ⟨u, by simpa [List.lookup, q'] using h1, h2⟩
theorem lookup_not {α : Type} {fl : Str} : ∀ {ns : List Str} {vs : List α}, fl ∉ ns → (ns.zip vs).lookup fl = none
  | [], vs, h => rfl
  | n :: ns, [], h => rfl
  | n :: ns, v :: vs, h => by
    have q : (fl == n) = false := by
      simp at h
      simpa using h.1
    have : fl ∉ ns := fun e => h (List.mem_cons_of_mem _ e)
    simp only [List.zip_cons_cons, List.lookup, q]
    exact lookup_not this
/-- e.f, an attribute of an instance of the class at C -/
theorem e_fld (fl : Str) (he : PE X o (rdE T W co)) (c : Cls X.K C) (n : NoAttr X.K C fl) (hb : attributeBase o fl X.env (eval o X.env) = eval o X.env := by rfl) : PE X (.Attribute o fl pos) (rdE T W (cFld C fl co)) := by
  refine pe_imp (pe_fld he hb) ?_
  rintro s H Q ⟨H0, I, B, z, S, a, h⟩
  refine bind (rep := Rp) (rep2 := Rp) (Q := Q) a h fun J B' H' S' v d g a1 r1 f1 => ?_
  cases q1 : classOf S' d with
  | none => rw [q1] at f1; exact f1.elim
  | some p =>
    obtain ⟨C', ns⟩ := p
    cases q2 : fieldOf S' d fl with
    | none => rw [q1, q2] at f1; exact f1.elim
    | some y =>
      rw [q1, q2] at f1
      dsimp only at f1
      by_cases hC : C' = C
      · subst hC
        rw [if_pos rfl] at f1
        obtain ⟨b, dx, vs, xs, rfl, hb, hl, rv, hf⟩ := insOf a1.st r1 q1
        rw [hf] at q2
        obtain ⟨u, h1, h2⟩ := lookup_rps hl rv q2
        exact ⟨b, C', dx, _, u, rfl, hb, c, n, h1, f1.here a1.st h2⟩
      · rw [if_neg hC] at f1; exact f1.elim
/-- o.m(e, ..) -/
theorem e_meth {pl : Sem Bool} (he : PE X o (rdE T (kW E) co)) (c : Cls X.K C) (hm : Meth X.K C m f) (F : FnC X.prog X.w X.K X.mg X.base T.tabs k f fd ps g) (hr : Room k X.A) (hb : Binds X.K fd ps []) (hx : Passes (L2.CX X.prog X.w) X E) (ha : PA X (e :: es) (rdA T (kW E) ca)) {n : Nat} (hn : AN ca n) (hp : ps.length = n + 1)
    (hst : starEach (e :: es) X.env = (false, eval e X.env) :: starEach es X.env := by rfl) (hpl : (backTo pos (starEach es X.env)).any (·.1) = false := by rfl)
    (ht : eval (.Call (.Attribute o m apos) (e :: es) [] pos) X.env = (do
      let ov ← eval o X.env
      standAt apos.atName
      let (f, first) ← holding [ov] (getMethod ov m pl)
      callWith pos f first (backTo pos (starEach (e :: es) X.env)) (backToKw pos (keywordEach [] X.env))) := by rfl) :
    PE X (.Call (.Attribute o m apos) (e :: es) [] pos) (rdE T (kW E) (cMeth C m g co ca)) := by
  refine pe_imp (pe_meth (pl := pl) he c hm F hr hb .nil hx ha hst hpl ht) ?_
  rintro s H Q ⟨H0, I, B, z, S, a, h⟩
  refine bind (rep := Rp) (rep2 := Rp) (Q := Q) a h fun J B' H' S' v d g1 a1 r1 f1 => ?_
  cases q1 : classOf S' d with
  | none => rw [q1] at f1; exact f1.elim
  | some pq =>
    obtain ⟨C', ns⟩ := pq
    rw [q1] at f1
    dsimp only at f1
    by_cases hC : C' = C ∧ m ∉ ns
    · rw [if_pos hC] at f1
      obtain ⟨rfl, hC2⟩ := hC
      obtain ⟨b, dx, vs, xs, rfl, hb, hl, rv, hf⟩ := insOf a1.st r1 q1
      refine ⟨b, dx, _, rfl, hb, lookup_not hC2, ?_⟩
      have hn' := hn z S'
      cases q : ca z S' with
      | ok ys S2 =>
        refine ⟨H0, J, B', z, S', a1, ?_⟩
        rw [q] at f1 ⊢
        exact fun J2 B2 H2 us g2 st r => by
          show spG T.tabs ps.length g (V.ref b :: (us ++ [])) H2 Q E
          rw [List.append_nil]
          exact call_sp (W := kW E) (s := s) (ds := d :: ys) (by simp [r.len, hn' ys S2 q, hp]) (a1.gr g2 st) ⟨r1.gr g2, r⟩ (f1.gr g2) fun _ _ _ h => h
      | exc x S2 =>
        refine ⟨H0, J, B', z, S', a1, ?_⟩
        rw [q] at f1 ⊢
        exact f1
      | bad => rw [q] at f1; exact f1.elim
    · rw [if_neg hC] at f1; exact f1.elim
/-- o.m() -/
theorem e_meth0 {pl : Sem Bool} (he : PE X o (rdE T (kW E) co)) (c : Cls X.K C) (hm : Meth X.K C m f) (F : FnC X.prog X.w X.K X.mg X.base T.tabs k f fd ps g) (hr : Room k X.A) (hb : Binds X.K fd ps []) (hx : Passes (L2.CX X.prog X.w) X E) (hp : ps.length = 1)
    (ht : eval (.Call (.Attribute o m apos) [] [] pos) X.env = (do
      let ov ← eval o X.env
      standAt apos.atName
      let (f, first) ← holding [ov] (getMethod ov m pl)
      callWith pos f first (backTo pos (starEach [] X.env)) (backToKw pos (keywordEach [] X.env))) := by rfl) :
    PE X (.Call (.Attribute o m apos) [] [] pos) (rdE T (kW E) (cMeth C m g co aNil)) := by
  refine pe_imp (pe_meth0 (pl := pl) he c hm F hr hb .nil hx ht) ?_
  rintro s H Q ⟨H0, I, B, z, S, a, h⟩
  refine bind (rep := Rp) (rep2 := Rp) (Q := Q) a h fun J B' H' S' v d g1 a1 r1 f1 => ?_
  cases q1 : classOf S' d with
  | none => rw [q1] at f1; exact f1.elim
  | some pq =>
    obtain ⟨C', ns⟩ := pq
    rw [q1] at f1
    dsimp only at f1
    by_cases hC : C' = C ∧ m ∉ ns
    · rw [if_pos hC] at f1
      obtain ⟨rfl, hC2⟩ := hC
      obtain ⟨b, dx, vs, xs, rfl, hb, hl, rv, hf⟩ := insOf a1.st r1 q1
      exact ⟨b, dx, _, rfl, hb, lookup_not hC2, call_sp (W := kW E) (s := s) (vs := [.ref b]) (ds := [d]) hp.symm a1 ⟨r1, trivial⟩ f1 fun _ _ _ h => h⟩
    · rw [if_neg hC] at f1; exact f1.elim
/-- o.p, p a property whose getter lets no exception out -/
def gNox (g : G) : G := fun ds S => match g ds S with
  | .ok d S' => .ok d S'
  | _ => .bad
theorem e_prop {pa : Addr} {fl : Str} (he : PE X o (rdE T (kW E) co)) (c : Cls X.K C) (hp : PropOf X.K C fl pa f) (F : FnC X.prog X.w X.K X.mg X.base T.tabs k f fd ps g) (hr : Room (k + 1) X.A) (hb : Binds X.K fd ps []) (hps : ps.length = 1)
    (hab : attributeBase o fl X.env (eval o X.env) = eval o X.env := by rfl) : PE X (.Attribute o fl pos) (rdE T (kW E) (cProp C (gNox g) co)) := by
  refine pe_imp (pe_prop he c hp F hr hb .nil (passL (X := X.nox)) hab) ?_
  rintro s H Q ⟨H0, I, B, z, S, a, h⟩
  refine bind (rep := Rp) (rep2 := Rp) (Q := Q) a h fun J B' H' S' v d g1 a1 r1 f1 => ?_
  cases q1 : classOf S' d with
  | none => rw [q1] at f1; exact f1.elim
  | some pq =>
    obtain ⟨C', ns⟩ := pq
    rw [q1] at f1
    dsimp only at f1
    by_cases hC : C' = C
    · rw [if_pos hC] at f1
      subst hC
      obtain ⟨b, dx, vs, xs, rfl, hb, hl, rv, hf⟩ := insOf a1.st r1 q1
      refine ⟨b, dx, _, rfl, hb, ?_⟩
      refine call_sp (W := fun _ _ _ _ => False) (s := s) (vs := [.ref b]) (ds := [d]) hps.symm a1 ⟨r1, trivial⟩ ?_ fun _ _ _ h => h
      unfold gNox at f1
      cases q : g [d] S' with
      | ok y S2 => rw [q] at f1; exact f1
      | exc y S2 => rw [q] at f1; exact f1.elim
      | bad => rw [q] at f1; exact f1.elim
    · rw [if_neg hC] at f1; exact f1.elim
end
end CL
set_option Elab.async false
set_option linter.all false
set_option maxRecDepth 100000
namespace CL
open PySem PySem.Spec PyProof.Rows L2
variable [TheK]
variable {L : Tl} {T : Pm} {X : Cx} {W : WX}
section
variable {k : Nat} {f C p : Addr} {mc : Value} {fd : FuncData} {ps : List Str} {g : G} {x m : Str} {pos apos : Pos} {e o : Expr} {es : List Expr} {co : CE} {ca : CA} {E : XK}
theorem e_cval {fl : Str} {d : D} {v : V} {u : Value} (he : PE X o (rdE T W co)) (r : ClX.CRead X.K C mc) (c : ClX.CVal X.K C mc fl v u) (rv : ∀ I B, Rp I B v d) (hb : attributeBase o fl X.env (eval o X.env) = eval o X.env := by rfl) :
    PE X (.Attribute o fl pos) (rdE T W (cVal C d co)) := by
  refine pe_imp (ClX.pe_cval he hb) ?_
  rintro s H Q ⟨H0, I, B, z, S, a, h⟩
  refine bind (rep := Rp) (rep2 := Rp) (Q := Q) a h fun J B' H' S' w y g a1 r1 f1 => ?_
  cases y with
  | ref b =>
    dsimp only at f1
    by_cases hC : b = C
    · rw [if_pos hC] at f1
      subst hC
      exact ⟨_, mc, v, u, r1, r, c, f1.here a1.st (rv _ _)⟩
    · rw [if_neg hC] at f1; exact f1.elim
  | _ => exact f1.elim
/-- C.m is a static method: its record at p, its def at f -/
structure SMet (K : PySem.W.Frag) (C : Addr) (mc : Value) (m : Str) (p f : Addr) : Prop where
  at_ : PySem.W.findCls K (.ref C) mc m = some (.get (.builtin "staticmethod.__get__") (.ref p) .none (.ref C))
  rc : ∃ rest, PySem.W.recIn K p "staticmethod" = some (.ref f :: rest)
  kp : PySem.W.keepIn K (.ref f) = true
theorem e_stat {pl : Sem Bool} (he : PE X o (rdE T W co)) (r : ClX.CRead X.K C mc) (c : SMet X.K C mc m p f) (F : FnC X.prog X.w X.K X.mg X.base T.tabs k f fd ps g) (hr : Room k X.A) (hb : Binds X.K fd ps []) (tk : Takes X W) (ha : PA X (e :: es) (rdA T W ca)) (hn : AN ca ps.length)
    (hst : starEach (e :: es) X.env = (false, eval e X.env) :: starEach es X.env := by rfl) (hpl : (backTo pos (starEach es X.env)).any (·.1) = false := by rfl)
    (ht : eval (.Call (.Attribute o m apos) (e :: es) [] pos) X.env = (do
      let ov ← eval o X.env
      standAt apos.atName
      let (f, first) ← holding [ov] (getMethod ov m pl)
      callWith pos f first (backTo pos (starEach (e :: es) X.env)) (backToKw pos (keywordEach [] X.env))) := by rfl) :
    PE X (.Call (.Attribute o m apos) (e :: es) [] pos) (rdE T W (cStat C g co ca)) := by
  refine ⟨fun pins s σ H Q I ⟨H0, I0, B, z, S, a, h⟩ => ?_⟩
  refine PySem.W.methodCall_KW (pl := pl) (thn (he.run pins s σ H (fun v H' => v = .ref C ∧ rd T Rps W ca σ H' fun vs H1 => spG T.tabs ps.length g vs H1 Q (WE W σ)) I ?_) fun u s1 ⟨v, H1, I1, r1, e1, q1⟩ => ?_) ht
  · refine bind (rep := Rp) (rep2 := Rp) (Q := Q) a h fun J B' H' S' w y g' a1 r1 f1 => ?_
    cases y with
    | ref b =>
      dsimp only at f1
      by_cases hC : b = C
      · rw [if_pos hC] at f1
        subst hC
        refine ⟨r1, ?_⟩
        have hn' := hn z S'
        cases q : ca z S' with
        | ok xs S2 =>
          refine ⟨H0, J, B', z, S', a1, ?_⟩
          rw [q] at f1 ⊢
          exact fun J2 B2 H2 vs g2 st2 r2 => call_sp (by rw [r2.len]; exact hn' xs S2 q) (a1.gr g2 st2) r2 (f1.gr g2) fun _ _ _ h => h
        | exc x S2 =>
          refine ⟨H0, J, B', z, S', a1, ?_⟩
          rw [q] at f1 ⊢
          exact f1
        | bad => rw [q] at f1; exact f1.elim
      · rw [if_neg hC] at f1; exact f1.elim
    | _ => exact f1.elim
  · subst e1
    obtain rfl : u = Value.ref C := r1
    obtain ⟨rest, hrec⟩ := c.rc
    refine PySem.W.method_cls I1.kIn r.ga (PySem.W.cls_bind I1.kIn r.rd c.at_ (wpAny_call (PySem.W.sm_get (s := { s1 with toks := s1.toks + 1 }) I1.kIn hrec (PySem.W.handed_on rfl ?_))))
    have I2 := I1.tok (s1.toks + 1)
    refine PySem.W.callWith_K (h₀ := X.base) (first := []) I2.ok.mod.kin c.kp (thn (ha.run pos pins _ σ H1 _ I2 q1) fun us s2 ⟨vs, H2, I3, rv, q2⟩ => ⟨I3.kIn, ?_⟩) hst hpl
    exact run_fnS F hr hb (passAt tk σ) I3 rv q2
end
/-- what a list that has just been made gives: nobody else knows it -/
def rdF (T : Pm) (W : WX) (c : CE) : TE := fun s H Q => ∃ H0 I B z S, At T H0 I B H s z S ∧ match c z S with
  | .ok (.lst xs) S' => ∀ J B' H' p vs, Gr I B H J B' H' → Sto T.tabs J B' H' S' → H' p = none → Rps J B' vs xs → Q (.ref p) (upd H' p (.lst vs))
  | .exc e S' => ∀ J B' H' c dd, Gr I B H J B' H' → Sto T.tabs J B' H' S' → RpX J B' c dd e → W c dd s H'
  | _ => False
theorem bindF {α β : Type} {rep : List Addr → Hp → β → α → Prop} {s : L2.St} {I : List Addr} {B H H0 : Hp} {z : Sl} {S : Store} {ca : C α} {f : α → Store → R D} {P : β → Hp → Prop} {Q : VK} (at_ : At T H0 I B H s z S)
    (h : match (ca z S).bind f with
      | .ok (.lst xs) S' => ∀ J B' H' p vs, Gr I B H J B' H' → Sto T.tabs J B' H' S' → H' p = none → Rps J B' vs xs → Q (.ref p) (upd H' p (.lst vs))
      | .exc e S' => ∀ J B' H' c dd, Gr I B H J B' H' → Sto T.tabs J B' H' S' → RpX J B' c dd e → W c dd s H'
      | _ => False)
    (k : ∀ J B' H' S' v x, Gr I B H J B' H' → At T H0 J B' H' s z S' → rep J B' v x → (match f x S' with
      | .ok (.lst xs) S2 => ∀ J2 B2 H2 p vs, Gr J B' H' J2 B2 H2 → Sto T.tabs J2 B2 H2 S2 → H2 p = none → Rps J2 B2 vs xs → Q (.ref p) (upd H2 p (.lst vs))
      | .exc e S2 => ∀ J2 B2 H2 c dd, Gr J B' H' J2 B2 H2 → Sto T.tabs J2 B2 H2 S2 → RpX J2 B2 c dd e → W c dd s H2
      | _ => False) → P v H') : rd T rep W ca s H P := by
  refine ⟨H0, I, B, z, S, at_, ?_⟩
  cases e : ca z S with
  | ok x S' =>
    rw [e] at h
    intro J B' H' v g st r
    refine k J B' H' S' v x g (at_.gr g st) r ?_
    simp only [R.bind] at h
    revert h
    cases f x S' with
    | ok d S2 =>
      cases d with
      | lst xs => exact fun h J2 B2 H2 p vs g2 => h J2 B2 H2 p vs (g.trans g2)
      | _ => exact fun h => h
    | exc e S2 => exact fun h J2 B2 H2 c dd g2 => h J2 B2 H2 c dd (g.trans g2)
    | bad => exact fun h => h
  | exc x S' => rw [e] at h; exact h
  | bad => rw [e] at h; exact h
section
variable {e : Expr} {es : List Expr} {ca : CA} {pos : Pos}
theorem f_lst (h : PA X es (rdA T W ca)) : PE X (.List es pos) (rdF T W (cLst ca)) := by
  refine pe_imp (pe_lst h) ?_
  rintro s H Q ⟨H0, I, B, z, S, a, h⟩
  refine bindF (rep := Rps) (Q := Q) a h fun J B' H' S' v x g a1 r1 f1 => ?_
  by_cases hl : x.length ≤ 16777216
  · rw [if_pos hl] at f1
    exact ⟨by rw [r1.len]; exact line_le hl, fun p hp => f1 J B' H' p v (Gr.refl _ _ _) a1.st hp r1⟩
  · rw [if_neg hl] at f1; exact f1.elim
variable {I0 : List Addr} {B0 H0 : Hp} {ce : CE}
/-- how a statement's wish is one about a fresh list -/
theorem sdoF {s : L2.St} {I : List Addr} {B H : Hp} {z : Sl} {S : Store} {En : Ends} {f : List D → Store → O} {Q : VK} (g0 : Gr I0 B0 H0 I B H) (a : At T H0 I B H s z S)
    (h : FinS T I0 B0 H0 W I B En (oDo (ce z S) z fun d S' => match d with | .lst xs => f xs S' | _ => .bad))
    (k : ∀ J B' H' S' p vs xs, Gr I0 B0 H0 J B' H' → At T H0 J B' H' s z S' → H' p = none → Rps J B' vs xs → FinS T I0 B0 H0 W J B' En (f xs S') → Q (.ref p) (upd H' p (.lst vs))) : rdF T W ce s H Q := by
  refine ⟨H0, I, B, z, S, a, ?_⟩
  cases e : ce z S with
  | ok x S' =>
    rw [e] at h
    cases x with
    | lst xs => exact fun J B' H' p vs g st hp r => k J B' H' S' p vs xs (g0.trans g) (a.gr g st) hp r (h.gb g.gb)
    | _ => exact h.elim
  | exc x S' =>
    rw [e] at h
    exact fun J B' H' c dd g st r => h J B' H' s c dd (g0.trans g) g.gb (a.gr g st) r
  | bad => rw [e] at h; exact h.elim
theorem s_setL {i : Nat} {x : Str} {pos' : Pos} (hN : X.N.Nodup) (hi : X.N[i]? = some x) (hx : Loc X.env.scope x) (he : PE X e (rdF T W ce)) (hs : swapsWith e (some (.Name x pos')) pos.line X.env = pure false := by rfl) (hf : X.fn x = true ∨ X.env.scope.names.lookup x = some .local := by first | exact .inl rfl | exact .inr rfl | assumption) :
    PS X (.Assign [.Name x pos'] e pos) (rdS T I0 B0 H0 W (sSetL i ce)) := by
  refine ps_imp (ps_set hN hi hx he hs hf) ?_
  rintro D s H ⟨I, B, z, S, g, a, f⟩
  refine sdoF g a f fun J B' H' S' p vs xs g0 a1 hp r f1 => ?_
  have h0 := g0.dom p (.of hp)
  have a2 := a1.newOwn (y := .l xs) i h0 hp (o := .lst vs) ⟨p, vs, rfl, upd_same, r, h0, a1.st.noB hp, a1.st.notIn hp⟩
  exact f1 J B' _ _ (gr_own g0 h0) GB.rfl a2
/-- the own list in slot i, behind a piece -/
theorem ownL {s : L2.St} {I : List Addr} {B H : Hp} {z : Sl} {S : Store} {i : Nat} {xs : List D} (a : At T H0 I B H s z S) (e : z[i]? = some (.l xs)) : ∃ b vs, s[i]? = some (some (V.ref b)) ∧ H b = some (.lst vs) ∧ Rps I B vs xs ∧ Own H0 I B b := by
  obtain ⟨o, h1, b, vs, rfl, h2, h3, h4⟩ := a.sl.get e
  exact ⟨b, vs, h1, h2, h3, h4⟩
theorem listTy {K : PySem.W.Frag} {H : Hp} {b : Addr} {vs : List V} (h : H b = some (.lst vs)) : tyV K "list" (.ref b) H := .inl ⟨rfl, vs, SqL.of h⟩
theorem s_append {i : Nat} {t : Expr} {apos spos : Pos} (ho : PE X t (tVar i)) (ha : PE X e (rdE T W ce))
    (hm : PE X t (tVar i) → PA X [e] (tCons (rdE T W ce) tNil) → PE X (.Call (.Attribute t "append" apos) [e] [] pos) (tBM X.K "list" rAppend (tVar i) (tCons (rdE T W ce) tNil)) := by
      exact fun h1 h2 => pe_bm PySem.F.plainAttrs_list PySem.F.slot_list_append PySem.F.type_list_append mt_append h1 h2)
    (hs : swapsWith (.Call (.Attribute t "append" apos) [e] [] pos) none spos.line X.env = pure false := by rfl)
    (hst : starEach (e :: []) X.env = (false, eval e X.env) :: starEach [] X.env := by rfl) :
    PS X (.Expr (.Call (.Attribute t "append" apos) [e] [] pos) spos) (rdS T I0 B0 H0 W (sAppend i ce)) := by
  refine ps_imp (ps_expr (hm ho (pa_cons ha pa_nil hst)) hs) ?_
  rintro D s H ⟨I, B, z, S, g, a, f⟩
  unfold sAppend at f
  split at f
  · rename_i xs e1
    obtain ⟨b, vs, h1, h2, h3, h4⟩ := ownL a e1
    refine ⟨.ref b, h1, listTy h2, ?_⟩
    refine sdo (rep := Rp) g a f fun J B' H' S' v x g0 g1 a1 r1 f1 => ?_
    obtain ⟨b', vs', h1', h2', h3', h4'⟩ := ownL a1 e1
    rw [h1] at h1'; cases h1'
    by_cases hl : xs.length < 16777216
    · rw [if_pos hl] at f1
      have r2 : Rps J B' (vs' ++ [v]) (xs ++ [x]) := h3'.append ⟨r1, trivial⟩
      have a2 := a1.setOwn (u := .lst (vs' ++ [v])) (y' := .l (xs ++ [x])) i h1 e1 rfl h2' (fun ps z => by cases z) (fun q z => by cases z) h4' ⟨b, _, rfl, upd_same, r2, h4'⟩
      exact ⟨b, vs', v, rfl, rfl, h2', by rw [h3'.len]; exact line_lt hl, f1 J B' _ _ (gr_own g0 h4'.1) GB.rfl a2⟩
    · rw [if_neg hl] at f1; exact f1.elim
  · exact f.elim
end
end CL
set_option Elab.async false
set_option linter.all false
set_option maxRecDepth 100000
namespace CL
open PySem PySem.Spec PyProof.Rows L2
variable [TheK]
variable {L : Tl} {T : Pm} {X : Cx} {W : WX}
section
variable {e : Expr} {es : List Expr} {ca : CA} {pos : Pos} {I0 : List Addr} {B0 H0 : Hp} {ce co ck : CE}
theorem s_extend {i : Nat} {t : Expr} {apos spos : Pos} (ho : PE X t (tVar i)) (ha : PE X e (rdE T W ce))
    (hm : PE X t (tVar i) → PA X [e] (tCons (rdE T W ce) tNil) → PE X (.Call (.Attribute t "extend" apos) [e] [] pos) (tBM X.K "list" rExtend (tVar i) (tCons (rdE T W ce) tNil)) := by
      exact fun h1 h2 => pe_bm PySem.F.plainAttrs_list PySem.F.slot_list_extend PySem.F.type_list_extend mt_extend h1 h2)
    (hs : swapsWith (.Call (.Attribute t "extend" apos) [e] [] pos) none spos.line X.env = pure false := by rfl)
    (hst : starEach (e :: []) X.env = (false, eval e X.env) :: starEach [] X.env := by rfl) :
    PS X (.Expr (.Call (.Attribute t "extend" apos) [e] [] pos) spos) (rdS T I0 B0 H0 W (sExtend i ce)) := by
  refine ps_imp (ps_expr (hm ho (pa_cons ha pa_nil hst)) hs) ?_
  rintro D s H ⟨I, B, z, S, g, a, f⟩
  unfold sExtend at f
  split at f
  · rename_i xs e1
    obtain ⟨b, vs, h1, h2, h3, h4⟩ := ownL a e1
    refine ⟨.ref b, h1, listTy h2, ?_⟩
    refine sdo (rep := Rp) g a f fun J B' H' S' v x g0 g1 a1 r1 f1 => ?_
    obtain ⟨b', vs', h1', h2', h3', h4'⟩ := ownL a1 e1
    rw [h1] at h1'; cases h1'
    cases x with
    | lst ys =>
      dsimp only at f1
      by_cases hl : xs.length + ys.length ≤ 16777216
      · rw [if_pos hl] at f1
        obtain ⟨c, ws, rfl, hc, _, rw'⟩ := Rp.lst a1.st r1
        have r2 : Rps J B' (vs' ++ ws) (xs ++ ys) := h3'.append rw'
        have a2 := a1.setOwn (u := .lst (vs' ++ ws)) (y' := .l (xs ++ ys)) i h1 e1 rfl h2' (fun ps z => by cases z) (fun q z => by cases z) h4' ⟨b, _, rfl, upd_same, r2, h4'⟩
        exact ⟨b, c, vs', ws, rfl, rfl, h2', hc, by rw [h3'.len, rw'.len]; exact line_le hl, f1 J B' _ _ (gr_own g0 h4'.1) GB.rfl a2⟩
      · rw [if_neg hl] at f1; exact f1.elim
    | _ => exact f1.elim
  · exact f.elim
theorem putF_zip {f : Str} {v : V} : ∀ {ns : List Str} {vs : List V}, ns.length = vs.length → putF f v (ns.zip vs) = (putN f v ns vs).1.zip (putN f v ns vs).2
  | [], [], _ => rfl
  | n :: ns, v' :: vs, h => by
    have ih := putF_zip (f := f) (v := v) (ns := ns) (vs := vs) (by simpa using h)
    simp only [List.zip_cons_cons, putF, putN]
    by_cases e : n = f
    · subst e; simp
    · rw [if_neg e, if_neg e, ih]; rfl
  | [], _ :: _, h => by cases h
  | _ :: _, [], h => by cases h
theorem putN_rps {I : List Addr} {B : Hp} {f : Str} {v : V} {d : D} (r : Rp I B v d) : ∀ {ns : List Str} {vs : List V} {xs : List D}, ns.length = vs.length → Rps I B vs xs →
    (putN f v ns vs).1 = (putN f d ns xs).1 ∧ (putN f v ns vs).1.length = (putN f v ns vs).2.length ∧ Rps I B (putN f v ns vs).2 (putN f d ns xs).2
  | [], [], [], _, _ => ⟨rfl, rfl, r, trivial⟩
  | n :: ns, v' :: vs, x :: xs, h, rs => by
    obtain ⟨h1, h2, h3⟩ := putN_rps (f := f) r (ns := ns) (vs := vs) (xs := xs) (by simpa using h) rs.2
    simp only [putN]
    by_cases e : n = f
    · rw [if_pos e, if_pos e]
      exact ⟨rfl, by simpa using h, r, rs.2⟩
    · rw [if_neg e, if_neg e]
      exact ⟨by simp [h1], by simp [h2], rs.1, h3⟩
  | [], [], _ :: _, _, h => h.elim
  | _ :: _, _ :: _, [], _, h => h.elim
  | [], _ :: _, _, h, _ => by cases h
  | _ :: _, [], _, h, _ => by cases h
theorem s_field {C : Addr} {fl : Str} {o value : Expr} {pos' : Pos} (ha : PE X o (rdE T W co)) (hv : PE X value (rdE T W ce)) (c : Cls X.K C) (n : NoAttr X.K C fl) (hs : swapsWith value (some (.Attribute o fl pos')) pos.line X.env = pure false := by rfl) :
    PS X (.Assign [.Attribute o fl pos'] value pos) (rdS T I0 B0 H0 W (sField C fl co ce)) := by
  refine ps_imp (ps_fld ha hv hs) ?_
  rintro D s H ⟨I, B, z, S, g, a, f⟩
  unfold sField at f
  refine sdo (rep := Rp) g a f fun J B' H' S' v x g0 g1 a1 r1 f1 => ?_
  refine sdo (rep := Rp) g0 a1 f1 fun J2 B2 H2 S2 u y g02 g2 a2 r2 f2 => ?_
  cases y with
  | ptr j =>
    dsimp only at f2
    cases q : S2[j]? with
    | none => simp only [q] at f2; exact f2.elim
    | some m =>
      cases m with
      | ins C' ns xs =>
        simp only [q] at f2
        by_cases hC : C' = C ∧ ns.length < 1000
        · rw [if_pos hC] at f2
          obtain ⟨rfl, hl⟩ := hC
          obtain ⟨b, o', rfl, hI, hb, dx, vs, rfl, hlen, rv⟩ := Rp.ptr a2.st r2 q
          obtain ⟨p1, p2, p3⟩ := putN_rps (f := fl) (r1.gr g2) hlen rv
          have a3 := a2.write (u := .ins C' dx (putF fl v (ns.zip vs))) (m := .ins C' (putN fl x ns xs).1 (putN fl x ns xs).2) hI hb (fun ps z => by cases z) (fun q z => by cases z)
            ⟨dx, (putN fl v ns vs).2, by rw [putF_zip hlen, p1], by rw [← p1]; exact p2, p3⟩
          exact ⟨b, C', dx, _, rfl, hb, c, n, by simp [List.length_zip]; omega, f2 J2 B2 _ s (g02.trans (gr_write (List.mem_of_getElem? hI) (fun ps z => by cases z))) GB.rfl a3⟩
        · rw [if_neg hC] at f2; exact f2.elim
      | lst _ => simp only [q] at f2; exact f2.elim
      | dct _ _ => simp only [q] at f2; exact f2.elim
      | lk _ _ => simp only [q] at f2; exact f2.elim
      | fn _ => simp only [q] at f2; exact f2.elim
  | _ => exact f2.elim
/-- o[k] = v, o's list in the store -/
theorem s_item {o i value : Expr} {tpos : Pos} {cv : CE} (hv : PE X value (rdE T W cv)) (ho : PE X o (rdE T W co)) (hi : PE X i (rdE T W ck))
    (ha : ∀ v, assign (.Subscript o i tpos) X.env v = (do
      let ov ← holding [v] (eval o X.env)
      let iv ← holding [v, ov] (eval i X.env)
      standAt tpos
      holding [v, ov, iv] (setItem ov iv v)
      release [v, ov, iv] []) := by intro _; rfl)
    (hs : swapsWithSole [.Subscript o i tpos] value pos.line X.env = pure false := by rfl) (hw : swappedStores [.Subscript o i tpos] value X.env = pure none := by rfl)
    (h1 : (assignEach [.Subscript o i tpos] X.env).map (·.2) = [assign (.Subscript o i tpos) X.env] := by rfl) : PS X (.Assign [.Subscript o i tpos] value pos) (rdS T I0 B0 H0 W (sItem co ck cv)) := by
  refine ps_imp (ps_asg hv (pg_sub ho hi set_list ha) hs hw h1) ?_
  rintro D s H ⟨I, B, z, S, g, a, f⟩
  unfold sItem at f
  refine sdo (rep := Rp) g a f fun J B' H' S' v x g0 g1 a1 r1 f1 => ?_
  refine sdo (rep := Rp) g0 a1 f1 fun J2 B2 H2 S2 u y g02 g2 a2 r2 f2 => ?_
  refine sdo (rep := Rp) g02 a2 f2 fun J3 B3 H3 S3 w n g03 g3 a3 r3 f3 => ?_
  cases y with
  | ptr j =>
    cases n with
    | int n =>
      dsimp only at f3
      cases q : S3[j]? with
      | none => simp only [q] at f3; exact f3.elim
      | some m =>
        cases m with
        | lst xs =>
          simp only [q] at f3
          cases q2 : L2.ixN xs.length n with
          | none => simp only [q2] at f3; exact f3.elim
          | some t =>
            simp only [q2] at f3
            obtain ⟨b, o', rfl, hI, hb, vs, rfl, rv⟩ := Rp.ptr a3.st (r2.gr g3) q
            cases r3
            have a4 := a3.write (u := .lst (vs.set t v)) (m := .lst (xs.set t x)) hI hb (fun ps z => by cases z) (fun q z => by cases z) ⟨_, rfl, Rps.set ((r1.gr g2).gr g3) t rv⟩
            exact ⟨b, vs, n, t, rfl, rfl, hb, by rw [rv.len]; exact q2, f3 J3 B3 _ s (g03.trans (gr_write (List.mem_of_getElem? hI) (fun ps z => by cases z))) GB.rfl a4⟩
        | ins _ _ _ => simp only [q] at f3; exact f3.elim
        | dct _ _ => simp only [q] at f3; exact f3.elim
        | lk _ _ => simp only [q] at f3; exact f3.elim
        | fn _ => simp only [q] at f3; exact f3.elim
    | _ => exact f3.elim
  | _ => exact f3.elim
end
end CL
set_option Elab.async false
set_option linter.all false
set_option maxRecDepth 100000
namespace CL
open PySem PySem.Spec PyProof.Rows L2
variable [TheK]
variable {L : Tl} {T : Pm} {X : Cx} {W : WX}
variable (L) in
/-- J walks the data ds -/
structure Wk (J : It) (I : List Addr) (B : Hp) (ds : List D) : Prop where
  goes : ∀ {I' B' H S} (i : Nat), GB I B I' B' → Sto L I' B' H S → i < ds.length → J.go i H
  stops : ∀ {I' B' H S}, GB I B I' B' → Sto L I' B' H S → J.stop ds.length H
  yields : ∀ {I' B' H S} (i : Nat) {x : V} {H' : Hp} {d : D}, GB I B I' B' → Sto L I' B' H S → J.yld i H x H' → ds[i]? = some d → ∃ I2 B2, Gr I' B' H I2 B2 H' ∧ Sto L I2 B2 H' S ∧ Rp I2 B2 x d
theorem Wk.gb {J : It} {I I' : List Addr} {B B' : Hp} {ds : List D} (w : Wk L J I B ds) (g : GB I B I' B') : Wk L J I' B' ds :=
  ⟨fun i g' st h => w.goes i (g.trans g') st h, fun g' st => w.stops (g.trans g') st, fun i _ _ _ g' st y e => w.yields i (g.trans g') st y e⟩
theorem Rps.at_ {I : List Addr} {B : Hp} {vs : List V} {xs : List D} (r : Rps I B vs xs) {i : Nat} {v : V} {d : D} (e : vs[i]? = some v) (e2 : xs[i]? = some d) : Rp I B v d := by
  obtain ⟨u, h1, h2⟩ := r.get e2
  rw [e] at h1; cases h1; exact h2
/-- what never changes, walked as it stands -/
theorem Wk.still {J : It} {n : Nat} {G : Hp → Prop} {I : List Addr} {B : Hp} {ds : List D} {vs : List V} (w : Walk J n G (YAt vs)) (hn : n = ds.length) (r : Rps I B vs ds) (hG : ∀ {I' B' H S}, GB I B I' B' → Sto L I' B' H S → G H) : Wk L J I B ds := by
  subst hn
  refine ⟨fun i g st h => w.goes i _ h (hG g st), fun g st => w.stops _ (hG g st), fun {I' B' H S} i {x H' d} g st y e => ?_⟩
  obtain ⟨e1, e2⟩ := w.yields i _ _ _ (List.getElem?_eq_some_iff.mp e).1 (hG g st) y
  subst e1
  exact ⟨I', B', Gr.refl _ _ _, st, (r.mono g.sub g.ext (xs := ds)).at_ e2 e⟩
theorem Wk.tup {K : PySem.W.Frag} {a : Addr} {I : List Addr} {B : Hp} {vs : List V} {ds : List D} (h : B a = some (.tup vs)) (r : Rps I B vs ds) : Wk L (Itt K a) I B ds :=
  Wk.still walk_tup r.len r fun g st => SqT.of (st.sub _ _ (g.ext _ _ h))
theorem Wk.lst {K : PySem.W.Frag} {a : Addr} {I : List Addr} {B : Hp} {vs : List V} {ds : List D} (h : Rd B a (.lst vs)) (r : Rps I B vs ds) : Wk L (Itl K a) I B ds :=
  Wk.still walk_list r.len r fun g st => .inl (st.rdL (h.elim (fun z => .inl (g.ext _ _ z)) fun ⟨o, z⟩ => .inr ⟨o, g.ext _ _ z⟩))
theorem Wk.scr {a : Addr} {I : List Addr} {B : Hp} {ns : List Int} (h : Rd B a (.lst (ns.map V.int)) ∨ KLst a ns) : Wk L (Itl TheK.K a) I B (ns.map D.int) := by
  refine Wk.still (vs := ns.map V.int) walk_list (by simp) (Rps.ints _) fun g st => ?_
  exact st.scr (h.imp (fun h => h.elim (fun z => .inl (g.ext _ _ z)) fun ⟨o, z⟩ => .inr ⟨o, g.ext _ _ z⟩) id)
theorem Wk.range {lo : Int} {n : Nat} {I : List Addr} {B : Hp} : Wk L (Itr lo n) I B ((List.range n).map fun (k : Nat) => D.int (lo + (k : Int))) := by
  refine ⟨fun i g st h => (walk_range (lo := lo) (n := n)).goes i _ (by simpa using h) trivial, fun g st => ?_, fun {I' B' H S} i {x H' d} g st y e => ?_⟩
  · simp only [List.length_map, List.length_range]
    exact (walk_range (lo := lo) (n := n)).stops _ trivial
  · have hi : i < n := by simpa using (List.getElem?_eq_some_iff.mp e).1
    obtain ⟨e1, e2⟩ := (walk_range (lo := lo) (n := n)).yields i _ _ _ hi trivial y
    subst e1 e2
    have e3 : d = .int (lo + (i : Int)) := by
      rw [List.getElem?_map, List.getElem?_range hi] at e
      cases e; rfl
    subst e3
    exact ⟨I', B', Gr.refl _ _ _, st, rfl⟩
/-- new pairs of the items of two lists -/
theorem Wk.pairs {J : It} {n : Nat} {G : Hp → Prop} {I : List Addr} {B : Hp} {ds : List D} {xs ys : Nat → Option V} (w : Walk J n G (YPair xs ys)) (hn : n = ds.length)
    (r : ∀ i x y, xs i = some x → ys i = some y → i < n → ∃ d1 d2, ds[i]? = some (.tup [d1, d2]) ∧ Rp I B x d1 ∧ Rp I B y d2) (hG : ∀ {I' B' H S}, GB I B I' B' → Sto L I' B' H S → G H) : Wk L J I B ds := by
  subst hn
  refine ⟨fun i g st h => w.goes i _ h (hG g st), fun g st => w.stops _ (hG g st), fun {I' B' H S} i {v H' d} g st y e => ?_⟩
  have hi := (List.getElem?_eq_some_iff.mp e).1
  obtain ⟨t, x, z, rfl, ht, rfl, e1, e2⟩ := w.yields i _ _ _ hi (hG g st) y
  obtain ⟨d1, d2, q, r1, r2⟩ := r i x z e1 e2 hi
  rw [e] at q; cases q
  refine ⟨I', upd B' t (.tup [x, z]), gr_new ht st.sub, st.new ht (fun _ z => by cases z), t, [x, z], rfl, upd_same, ?_⟩
  exact Rps.new (vs := [x, z]) (xs := [d1, d2]) ⟨r1.mono g.sub g.ext, r2.mono g.sub g.ext, trivial⟩ st ht
/-- what a loop's source gives -/
def rdI (T : Pm) (W : WX) (ca : CA) : TI := fun s H R => ∃ H0 I B z S, At T H0 I B H s z S ∧ match ca z S with
  | .ok ds S' => ∀ J B' H' Jt, Gr I B H J B' H' → Sto T.tabs J B' H' S' → Wk T.tabs Jt J B' ds → R Jt H'
  | .exc e S' => ∀ J B' H' c dd, Gr I B H J B' H' → Sto T.tabs J B' H' S' → RpX J B' c dd e → W c dd s H'
  | .bad => False
theorem pi_imp {tg e : Expr} {t t' : TI} (h : PI X tg e t) (k : ∀ s H R, t' s H R → t s H R) : PI X tg e t' := ⟨fun pins s σ H R I hq => h.run pins s σ H R I (k _ _ _ hq)⟩
section
variable {α β : Type} {rep : List Addr → Hp → β → α → Prop} {s : L2.St} {I : List Addr} {B H H0 : Hp} {z : Sl} {S : Store}
theorem bindI {ca : C α} {f : α → Store → CL.R (List D)} {R : It → Hp → Prop} {P : β → Hp → Prop} (at_ : At T H0 I B H s z S)
    (h : match (ca z S).bind f with
      | .ok ds S' => ∀ J B' H' Jt, Gr I B H J B' H' → Sto T.tabs J B' H' S' → Wk T.tabs Jt J B' ds → R Jt H'
      | .exc e S' => ∀ J B' H' c dd, Gr I B H J B' H' → Sto T.tabs J B' H' S' → RpX J B' c dd e → W c dd s H'
      | .bad => False)
    (k : ∀ J B' H' S' v x, Gr I B H J B' H' → At T H0 J B' H' s z S' → rep J B' v x → (match f x S' with
      | .ok ds S2 => ∀ J2 B2 H2 Jt, Gr J B' H' J2 B2 H2 → Sto T.tabs J2 B2 H2 S2 → Wk T.tabs Jt J2 B2 ds → R Jt H2
      | .exc e S2 => ∀ J2 B2 H2 c dd, Gr J B' H' J2 B2 H2 → Sto T.tabs J2 B2 H2 S2 → RpX J2 B2 c dd e → W c dd s H2
      | .bad => False) → P v H') : rd T rep W ca s H P := by
  refine ⟨H0, I, B, z, S, at_, ?_⟩
  cases e : ca z S with
  | ok x S' =>
    rw [e] at h
    intro J B' H' v g st r
    refine k J B' H' S' v x g (at_.gr g st) r ?_
    simp only [CL.R.bind] at h
    cases q : f x S' with
    | ok ds S2 => rw [q] at h; exact fun J2 B2 H2 Jt g2 => h J2 B2 H2 Jt (g.trans g2)
    | exc e S2 => rw [q] at h; exact fun J2 B2 H2 c dd g2 => h J2 B2 H2 c dd (g.trans g2)
    | bad => rw [q] at h; exact h
  | exc x S' => rw [e] at h; exact h
  | bad => rw [e] at h; exact h
end
section
variable {tg e a b : Expr} {ce ca cb : CE} {p pos : Pos}
def iSeqT (c : CE) : CA := fun z S => (c z S).bind fun d S' => match d with
  | .tup xs => .ok xs S'
  | _ => .bad
def iSeqL (c : CE) : CA := fun z S => (c z S).bind fun d S' => match d with
  | .lst xs => .ok xs S'
  | .scr ns => .ok (ns.map D.int) S'
  | _ => .bad
theorem i_tup (he : PE X e (rdE T W ce)) : PI X tg e (rdI T W (iSeqT ce)) := by
  refine pi_imp (pi_tup he) ?_
  rintro s H R ⟨H0, I, B, z, S, a, h⟩
  refine bindI (rep := Rp) a h fun J B' H' S' v x g a1 r1 f1 => ?_
  cases x with
  | tup xs =>
    obtain ⟨c, vs, rfl, hc, hb, rv⟩ := Rp.tup a1.st r1
    exact ⟨c, rfl, ⟨vs, SqT.of hc⟩, f1 J B' H' _ (Gr.refl _ _ _) a1.st (Wk.tup hb rv)⟩
  | _ => exact f1.elim
theorem i_lst (he : PE X e (rdE T W ce)) (hK : X.K = TheK.K := by rfl) : PI X tg e (rdI T W (iSeqL ce)) := by
  refine pi_imp (pi_list he) ?_
  rintro s H R ⟨H0, I, B, z, S, a, h⟩
  refine bindI (rep := Rp) a h fun J B' H' S' v x g a1 r1 f1 => ?_
  cases x with
  | lst xs =>
    obtain ⟨c, vs, rfl, hc, hb, rv⟩ := Rp.lst a1.st r1
    exact ⟨c, rfl, ⟨vs, SqL.of hc⟩, f1 J B' H' _ (Gr.refl _ _ _) a1.st (Wk.lst (.inl hb) rv)⟩
  | scr ns =>
    obtain ⟨c, rfl, hb⟩ := r1
    rw [hK]
    exact ⟨c, rfl, ⟨_, a1.st.scr hb⟩, f1 J B' H' _ (Gr.refl _ _ _) a1.st (Wk.scr hb)⟩
  | _ => exact f1.elim
theorem i_range1 (hg : Gl X "range") (hm : X.mg "range" = none) (ha : PE X a (rdE T W ca)) (hs : starEach [a] X.env = [(false, eval a X.env)] := by rfl) : PI X tg (.Call (.Name "range" p) [a] [] pos) (rdI T W (iRange1 ca)) := by
  refine pi_imp (pi_range1 hg hm (pa_cons ha pa_nil hs) hs) ?_
  rintro s H R ⟨H0, I, B, z, S, a, h⟩
  refine bindI (rep := Rp) a h fun J B' H' S' v x g a1 r1 f1 => ?_
  cases x with
  | int n =>
    dsimp only at f1
    by_cases hb0 : in62 n = true
    · rw [if_pos hb0] at f1
      have hb := in62_iff hb0
      cases r1
      exact ⟨n, rfl, hb.1, hb.2, f1 J B' H' _ (Gr.refl _ _ _) a1.st Wk.range⟩
    · rw [if_neg hb0] at f1; exact f1.elim
  | _ => exact f1.elim
end
section
variable {I0 : List Addr} {B0 H0 : Hp} {tg iter : Expr} {body : List Stmt} {ca : CA} {g : Tg} {cb : CS} {pos : Pos}
theorem s_for (hp : PassesOwn (model X.prog X.w) X.A X.env X.xe) (hc : X.calm = true) (hi : PI X tg iter (rdI T W ca)) (hg : PG X tg (rdG T H0 g)) (hb : PSs X body (rdS T I0 B0 H0 W cb))
    (hs : ∀ x, foldedSetIterable iter X.env x = pure x := by intro _; rfl) : PS X (.For tg iter body [] pos) (rdS T I0 B0 H0 W (sFor ca g cb)) := by
  refine ps_imp (ps_for hp hc hi hg hb hs) ?_
  rintro D s H ⟨I, B, z, S, g0, a, f⟩
  unfold sFor at f
  refine ⟨H0, I, B, z, S, a, ?_⟩
  cases e : ca z S with
  | bad => rw [e] at f; exact f.elim
  | exc x S' =>
    rw [e] at f
    exact fun J B' H' c dd g st r => f J B' H' s c dd (g0.trans g) g.gb (a.gr g st) r
  | ok ds S' =>
    rw [e] at f
    simp only [oDo] at f
    intro J1 B1 H1 Jt gr1 st1 wk
    refine ⟨fun i m s H => m = ds.length - i ∧ i ≤ ds.length ∧ ∃ I' B' z S, Gr I0 B0 H0 I' B' H ∧ GB J1 B1 I' B' ∧ At T H0 I' B' H s z S ∧ FinS T I0 B0 H0 W I' B' D (loop g cb (ds.drop i) z S),
      ⟨ds.length, by simp, Nat.zero_le _, J1, B1, z, S', g0.trans gr1, GB.rfl, a.gr gr1 st1, by simpa using f.gb gr1.gb⟩, ?_⟩
    rintro i m s H ⟨rfl, hi, I', B', z, S, g', gb, a', f'⟩
    by_cases hlt : i < ds.length
    · refine .inr ⟨wk.goes i gb a'.st hlt, fun s' H' => ∃ I' B' z S, Gr I0 B0 H0 I' B' H' ∧ GB J1 B1 I' B' ∧ At T H0 I' B' H' s' z S ∧ FinS T I0 B0 H0 W I' B' D (loop g cb (ds.drop (i + 1)) z S),
        fun s' H' p' => ⟨ds.length - (i + 1), by omega, rfl, hlt, p'⟩, fun x H' y => ?_⟩
      obtain ⟨I2, B2, g2, st2, r2⟩ := wk.yields i gb a'.st y (List.getElem?_eq_getElem hlt)
      have a2 := a'.gr g2 st2
      refine ⟨I2, B2, z, S, ds[i], a2, r2, ?_⟩
      rw [List.drop_eq_getElem_cons hlt, loop] at f'
      cases q : g ds[i] z with
      | none => rw [q] at f'; exact f'.elim
      | some z1 =>
        rw [q] at f'
        dsimp only at f' ⊢
        intro s' as'
        refine ⟨I2, B2, z1, S, g'.trans g2, as', ?_⟩
        have f2 := FinS.gb f' g2.gb
        cases q2 : cb z1 S with
        | nx z2 S2 =>
          rw [q2] at f2
          exact fun J B' H' s g3 gb3 a3 => ⟨J, B', z2, S2, g3, (gb.trans g2.gb).trans gb3, a3, FinS.gb f2 gb3⟩
        | ct z2 S2 =>
          rw [q2] at f2
          exact fun J B' H' s g3 gb3 a3 => ⟨J, B', z2, S2, g3, (gb.trans g2.gb).trans gb3, a3, FinS.gb f2 gb3⟩
        | bk z2 S2 => rw [q2] at f2; exact f2
        | rt d S2 => rw [q2] at f2; exact f2
        | exc x z2 S2 => rw [q2] at f2; exact f2
        | bad => rw [q2] at f2; exact f2
    · have ei : i = ds.length := by omega
      subst ei
      rw [List.drop_length, loop] at f'
      exact .inl ⟨wk.stops gb a'.st, f' I' B' H s g' GB.rfl a'⟩
theorem s_while {c : Expr} {t : CT} (n : Nat) (hp : PassesOwn (model X.prog X.w) X.A X.env X.xe) (hc : PT X c (rdT T W t)) (hb : PSs X body (rdS T I0 B0 H0 W cb)) : PS X (.While c body [] pos) (rdS T I0 B0 H0 W (sWhile n t cb)) := by
  refine ps_imp (ps_while hp hc hb) ?_
  rintro D s H ⟨I, B, z, S, g0, a, f⟩
  refine ⟨fun m s H => ∃ I B z S, Gr I0 B0 H0 I B H ∧ At T H0 I B H s z S ∧ FinS T I0 B0 H0 W I B D (wloop t cb m z S), ⟨n, I, B, z, S, g0, a, f⟩, ?_⟩
  rintro m s H ⟨I, B, z, S, g0, a, f⟩
  cases m with
  | zero => exact f.elim
  | succ m =>
    rw [wloop] at f
    refine sdo (rep := rB) g0 a f fun J B' H' S' v x g1 g2 a1 r1 f1 => ?_
    cases r1
    cases v with
    | false => exact f1 J B' H' s g1 GB.rfl a1
    | true =>
      rw [if_pos rfl] at f1 ⊢
      refine ⟨fun s H => ∃ I B z S, Gr I0 B0 H0 I B H ∧ At T H0 I B H s z S ∧ FinS T I0 B0 H0 W I B D (wloop t cb m z S), fun s' H' p => ⟨m, Nat.lt_succ_self _, p⟩, J, B', z, S', g1, a1, ?_⟩
      cases q2 : cb z S' with
      | nx z2 S2 =>
        rw [q2] at f1
        exact fun J B' H' s g3 gb3 a3 => ⟨J, B', z2, S2, g3, a3, FinS.gb f1 gb3⟩
      | ct z2 S2 =>
        rw [q2] at f1
        exact fun J B' H' s g3 gb3 a3 => ⟨J, B', z2, S2, g3, a3, FinS.gb f1 gb3⟩
      | bk z2 S2 => rw [q2] at f1; exact f1
      | rt d S2 => rw [q2] at f1; exact f1
      | exc x z2 S2 => rw [q2] at f1; exact f1
      | bad => rw [q2] at f1; exact f1
end
end CL
set_option Elab.async false
set_option linter.all false
set_option maxRecDepth 100000
namespace CL
open PySem PySem.Spec PyProof.Rows L2
variable [TheK]
variable {L : Tl} {T : Pm} {X : Cx} {W : WX}
abbrev wNo : WX := fun _ _ _ _ => False
/-- only the slots vs have changed -/
structure Tch (vs : List Nat) (s s' : L2.St) : Prop where
  len : s'.length = s.length
  out : ∀ i, i ∉ vs → s'[i]? = s[i]?
theorem Tch.trans {vs : List Nat} {s s1 s2 : L2.St} (h : Tch vs s s1) (k : Tch vs s1 s2) : Tch vs s s2 := ⟨k.len.trans h.len, fun i hi => (k.out i hi).trans (h.out i hi)⟩
theorem wipe_in {s : L2.St} {i : Nat} : ∀ {vs : List Nat}, i ∈ vs → i < s.length → (wipe s vs)[i]? = some none
  | v :: vs, h, hl => by
    unfold wipe
    rw [List.getElem?_set]
    by_cases e : v = i
    · rw [if_pos e, if_pos (by rw [wipe_length]; exact e ▸ hl)]
    · rw [if_neg e]
      have : i ∈ vs := by
        rcases List.mem_cons.mp h with q | q
        · exact absurd q.symm e
        · exact q
      exact wipe_in this hl
theorem Tch.wipe {vs : List Nat} {s s' : L2.St} (h : Tch vs s s') : wipe s' vs = wipe s vs := by
  apply List.ext_getElem?
  intro i
  by_cases hi : i ∈ vs
  · by_cases hl : i < s.length
    · rw [wipe_in hi hl, wipe_in hi (by rw [h.len]; exact hl)]
    · rw [List.getElem?_eq_none (by rw [wipe_length, h.len]; omega), List.getElem?_eq_none (by rw [wipe_length]; omega)]
  · rw [wipe_out hi, wipe_out hi, h.out i hi]
section
variable {vs : List Nat}
variable (T) in
def rdGw (vs : List Nat) (g : Tg) : TG := fun v s H Q => ∃ H0 I B z S d, At T H0 I B H s z S ∧ Rp I B v d ∧ match g d z with
  | some z' => ∀ s', At T H0 I B H s' z' S → Tch vs s s' → Q s' H
  | none => False
theorem gw_name {i : Nat} {x : Str} {pos : Pos} (hN : X.N.Nodup) (hi : X.N[i]? = some x) (hx : Loc X.env.scope x) (hv : i ∈ vs) (hf : X.fn x = true ∨ X.env.scope.names.lookup x = some .local := by first | exact .inl rfl | exact .inr rfl | assumption) : PG X (.Name x pos) (rdGw T vs (gN i)) := by
  refine pg_imp (pg_name hN hi hx hf) ?_
  rintro v s H Q ⟨H0, I, B, z, S, d, a, r, f⟩
  refine f _ (a.setD i r) ⟨by simp, fun j hj => ?_⟩
  rw [List.getElem?_set_ne]
  exact fun e => hj (e ▸ hv)
end
section
variable {H0 : Hp} {I J : List Addr} {B H B' H' : Hp} {s : L2.St} {z : Sl} {S : Store}
theorem At.wipe (a : At T H0 I B H s z S) : ∀ vs : List Nat, At T H0 I B H (wipe s vs) (wipeD z vs) S
  | [] => a
  | v :: vs => (At.wipe a vs).setU v none
/-- an object on its own: no slot, no store, nothing that stays -/
structure Hid (D : Addr) (o : HO) (I : List Addr) (B H : Hp) : Prop where
  at_ : H D = some o
  nb : B D = none
  ni : D ∉ I
theorem Hid.gr {D : Addr} {o : HO} (h : Hid D o I B H) (nt : ∀ ps, o ≠ .tbl ps) (g : Gr I B H J B' H') : Hid D o J B' H' := by
  refine ⟨g.keep D o h.at_ h.ni nt, ?_, fun hm => ?_⟩
  · cases q : B' D with
    | none => rfl
    | some u =>
      rcases g.new D u q with e | e
      · rw [h.nb] at e; cases e
      · exact (e.no h.at_ nt).elim
  · obtain ⟨k, rfl, hk⟩ := g.pre
    rcases List.mem_append.mp hm with e | e
    · exact h.ni e
    · exact (hk D e).no h.at_ nt
theorem Sto.hid {D : Addr} {o u : HO} (st : Sto L I B H S) (h : Hid D o I B H) (n1 : ∀ ps, o ≠ .tbl ps) (n2 : ∀ f, o ≠ .ext f) : Sto L I B (upd H D u) S := by
  refine ⟨st.len, st.nd, st.dj, fun b w q => ?_, st.nt, fun k m q => ?_, tab_upd st.tb h.at_ n1 n2⟩
  · rw [upd_ne]
    · exact st.sub b w q
    · intro e; subst e; rw [h.nb] at q; cases q
  · obtain ⟨b, w, h1, h2, h3⟩ := st.at_ k m q
    refine ⟨b, w, h1, ?_, h3.cod (cod_upd h.at_ n2)⟩
    rw [upd_ne]
    · exact h2
    · intro e; subst e; exact h.ni (List.mem_of_getElem? h1)
/-- it is laid down for good -/
theorem Sto.show_ {D : Addr} {o : HO} (st : Sto L I B H S) (h : Hid D o I B H) (nt : ∀ ps, o ≠ .tbl ps) : Sto L I (upd B D o) H S := by
  have hB : ∀ c u, B c = some u → upd B D o c = some u := fun c u q => by
    rw [upd_ne]
    · exact q
    · intro e; subst e; rw [h.nb] at q; cases q
  refine ⟨st.len, st.nd, fun c hc => ?_, fun c u q => ?_, fun c u q => ?_, fun k m q => ?_, st.tb⟩
  · have ne : c ≠ D := fun e => h.ni (by rw [← e]; exact hc)
    rw [upd_ne ne]; exact st.dj c hc
  · by_cases e : c = D
    · subst e; rw [upd_same] at q; cases q; exact h.at_
    · rw [upd_ne e] at q; exact st.sub c u q
  · by_cases e : c = D
    · subst e; rw [upd_same] at q; cases q; exact nt
    · rw [upd_ne e] at q; exact st.nt c u q
  · obtain ⟨b, w, h1, h2, h3⟩ := st.at_ k m q
    exact ⟨b, w, h1, h2, h3.mono ⟨[], by simp⟩ hB⟩
theorem Gr.show_ {D : Addr} {o : HO} (g : Gr I B H J B' H') (h0 : Fr H D) (h : Hid D o J B' H') : Gr I B H J (upd B' D o) H' where
  pre := g.pre
  ext := fun c u q => by
    have ne : c ≠ D := fun e => by
      subst e
      have := g.ext _ _ q
      rw [h.nb] at this; cases this
    rw [upd_ne ne]; exact g.ext c u q
  new := fun c u q => by
    by_cases e : c = D
    · exact .inr (e ▸ h0)
    · rw [upd_ne e] at q; exact g.new c u q
  keep := g.keep
  dom := g.dom
end
/-- a reading without exceptions, as one with -/
theorem lc_read {it : CA} {g : Tg} {t : CT} {e : CE} {vs : List Nat} {s : L2.St} {H : Hp} {Q : VK} (h : rdE T W (cLc it g t e vs) s H Q) :
    tLc (rdI T W it) (rdGw T vs g) (rdT T wNo t) (rdE T wNo e) vs s H Q := by
  obtain ⟨H0, I, B, z, S, a, h⟩ := h
  refine ⟨H0, I, B, z, S, a, ?_⟩
  unfold cLc at h
  cases q : it z S with
  | bad => rw [q] at h; exact h.elim
  | exc x S' => rw [q] at h; exact h
  | ok ds S1 =>
    rw [q] at h
    simp only [R.bind] at h
    intro I1 B1 H1 Jt g1 st1 wk D hD
    have h := Fin.gr h g1
    have a1 := (a.gr g1 st1).wipe vs
    have hid : Hid D (.lst []) I1 B1 (upd H1 D (.lst [])) := ⟨upd_same, st1.noB hD, st1.notIn hD⟩
    refine ⟨fun i m H => m = ds.length - i ∧ i ≤ ds.length ∧ ∃ I' B' S' acc accD, Gr I1 B1 H1 I' B' H ∧ Sto T.tabs I' B' H S' ∧ Hid D (.lst acc) I' B' H ∧ Rps I' B' acc accD ∧
        Fin T.tabs Rp W s I1 B1 H1 Q ((lcGo g t e (wipeD z vs) (ds.drop i) S' accD).bind fun xs S2 => .ok (.lst xs) S2),
      ⟨ds.length, by simp, Nat.zero_le _, I1, B1, S1, [], [], gr_own (Gr.refl _ _ _) (.of hD), st1.mono_H (keep_new hD), hid, trivial, by simpa using h⟩, ?_⟩
    rintro i m H ⟨rfl, hi, I', B', S', acc, accD, gr', st', hid', racc, f'⟩
    by_cases hlt : i < ds.length
    · refine .inr ⟨wk.goes i gr'.gb st' hlt, fun H => ∃ I' B' S' acc accD, Gr I1 B1 H1 I' B' H ∧ Sto T.tabs I' B' H S' ∧ Hid D (.lst acc) I' B' H ∧ Rps I' B' acc accD ∧
          Fin T.tabs Rp W s I1 B1 H1 Q ((lcGo g t e (wipeD z vs) (ds.drop (i + 1)) S' accD).bind fun xs S2 => .ok (.lst xs) S2),
        fun H' p => ⟨ds.length - (i + 1), by omega, rfl, hlt, p⟩, fun x H' y => ?_⟩
      obtain ⟨I2, B2, g2, st2, r2⟩ := wk.yields i gr'.gb st' y (List.getElem?_eq_getElem hlt)
      have a2 := a1.gr (gr'.trans g2) st2
      have hid2 := hid'.gr (fun ps z => by cases z) g2
      refine ⟨H0, I2, B2, wipeD z vs, S', ds[i], a2, r2, ?_⟩
      rw [List.drop_eq_getElem_cons hlt, lcGo] at f'
      cases q1 : g ds[i] (wipeD z vs) with
      | none => rw [q1] at f'; exact f'.elim
      | some z1 =>
        rw [q1] at f'
        dsimp only at f' ⊢
        intro s2 as2 tch
        refine ⟨by rw [tch.wipe, Tch.wipe (vs := vs) (s := s) ⟨wipe_length _ _, fun i hi => wipe_out hi⟩], ?_⟩
        refine ⟨H0, I2, B2, z1, S', as2, ?_⟩
        cases q2 : t z1 S' with
        | bad => rw [q2] at f'; exact f'.elim
        | exc x S3 => rw [q2] at f'; exact f'.elim
        | ok b S3 =>
          rw [q2] at f'
          intro I3 B3 H3 b' g3 st3 rb
          cases rb
          have hid3 := hid2.gr (fun ps z => by cases z) g3
          have gr3 := (gr'.trans g2).trans g3
          cases b with
          | false =>
            rw [if_neg Bool.false_ne_true]
            exact ⟨I3, B3, S3, acc, accD, gr3, st3, hid3, (racc.gr g2).gr g3, f'⟩
          | true =>
            rw [if_pos rfl]
            refine ⟨H0, I3, B3, z1, S3, as2.gr g3 st3, ?_⟩
            dsimp only at f'
            cases q3 : e z1 S3 with
            | bad => rw [q3] at f'; exact f'.elim
            | exc x S4 => rw [q3] at f'; exact f'.elim
            | ok d S4 =>
              rw [q3] at f'
              dsimp only at f'
              intro I4 B4 H4 v4 g4 st4 r4
              have hid4 := hid3.gr (fun ps z => by cases z) g4
              by_cases hl : accD.length < 16777216
              · rw [if_pos hl] at f'
                have ra := ((racc.gr g2).gr g3).gr g4
                refine ⟨acc, hid4.at_, by rw [ra.len]; exact line_lt hl, I4, B4, S4, acc ++ [v4], accD ++ [d], gr_own (gr3.trans g4) (.of hD), st4.hid hid4 (fun ps z => by cases z) (fun q z => by cases z), ⟨upd_same, hid4.nb, hid4.ni⟩, ra.append ⟨r4, trivial⟩, f'⟩
              · rw [if_neg hl] at f'; exact f'.elim
    · have ei : i = ds.length := by omega
      subst ei
      rw [List.drop_length, lcGo] at f'
      refine .inl ⟨wk.stops gr'.gb st', ?_⟩
      have hh : Hid D (.lst acc) I' B' H := hid'
      exact f' I' (upd B' D (.lst acc)) H (.ref D) (gr'.show_ (.of hD) hh) (st'.show_ hh (fun ps z => by cases z)) ⟨D, acc, rfl, upd_same, racc.mono ⟨[], by simp⟩ (xs := accD) fun c u q => by
        rw [upd_ne]
        · exact q
        · intro e; subst e; rw [hh.nb] at q; cases q⟩
section
variable {tg iter elt : Expr} {ifs : List Expr} {scope : Scope} {own : List (Str × Nat)} {it : CA} {g : Tg} {t : CT} {e : CE} {pos : Pos}
theorem ts_nil : PTs X [] (rdT T W tYesC) := by
  refine ⟨fun pins s σ H Q I h => pts_nil.run pins s σ H Q I ?_⟩
  obtain ⟨H0, J, B, z, S, a, f⟩ := h
  exact Fin.here (rep := rB) (x := true) (v := true) f a.st rfl
theorem e_lc (hc : X.calm = true) (hN : X.N.Nodup) {Nn : List Str} {ss : Scope} (hNn : X.N = Nn) (hss : X.env.scope = ss) (ok : blkC Nn ss scope own = true) (hi : PI X tg iter (rdI T W it))
    (hg : ∀ (s : Shared) (H : Hp) (C : Addr) (cl : List (Str × Addr)) (fp : List Addr), PG (X.blk s H scope (compEnvC scope cl C X.env) fp) tg (rdGw T (own.map (·.2)) g))
    (ht : ∀ (s : Shared) (H : Hp) (C : Addr) (cl : List (Str × Addr)) (fp : List Addr), PTs (X.blk s H scope (compEnvC scope cl C X.env) fp) ifs (rdT T wNo t))
    (he : ∀ (s : Shared) (H : Hp) (C : Addr) (cl : List (Str × Addr)) (fp : List Addr), PE (X.blk s H scope (compEnvC scope cl C X.env) fp) elt (rdE T wNo e)) (hs : ∀ x, foldedSetIterable iter X.env x = pure x := by intro _; rfl) :
    PE X (.ListComp elt [⟨tg, iter, ifs, 0⟩] scope pos) (rdE T W (cLc it g t e (own.map (·.2)))) :=
  pe_imp (pe_lc hc hN hi (blkOk_by (by subst hNn hss; exact ok)) hg ht he hs) fun _ _ _ h => lc_read h
end
end CL
set_option Elab.async false
set_option linter.all false
set_option maxRecDepth 100000
set_option maxHeartbeats 4000000
namespace PySem
namespace XKC
open Builtin Builtin.ObjectAttr HandSPX
section
variable {M : Model} {A : Around} {E : Value → Shared → Prop} {h : Heap} {g : Array GenState} {d : Drawn} {t : Nat} {os : OsState}
variable {nm q : Str} {C N : Addr} {bs bm bmB : List Value} {hdct : Bool} {sn : List Str} {sub : List Value} {ab : Bool} {col : Option Bool} {dd : Option Addr} {k0 k1 k2 k3 k5 : Option Value} {B newId initId : String}
theorem xk_check (F : ExcBaseFacts B newId initId bmB) (hT : ∀ X : String, bm.contains (.type X) = bmB.contains (.type X)) {kw : List (Str × Value)} {Q : Unit → Shared → Prop}
    (hC : h.get? C = some (excClassObj nm q C N bs bm hdct sn sub ab col dd k0 k1 k2 k3 k5 newId)) (hq : Q () ⟨h, g, d, t, os⟩) : wpAny M A (checkBuiltinCall newId ⟨[.ref C], kw⟩) Q E ⟨h, g, d, t, os⟩ := by
  have hh : (Value.ref C :: bm).contains (.type B) = true := by rw [List.contains_cons, hT, F.hasB, Bool.or_true]
  have hn := F.noStar
  simp only [checkBuiltinCall, F.newKind, F.newSplit, F.newRow]
  repeat (first | refine wpAny_loadPart_at hC ?_ | (refine wpAny_isSubtype_exc hC ?_; rw [hh]) | refine wpAny_staticBase_exc hC ?_ | refine wpAny_madeBy_exc hC ?_ | simp only [bne_self_eq_false, Bool.false_eq_true, if_false] | wp_step)
  exact hq
end
section
variable {prog : Program} {w : World} {A : Around} {E : Value → Shared → Prop} {R : Result → Shared → Prop} {h : Heap} {g : Array GenState} {d : Drawn} {t : Nat} {os : OsState}
variable {nm q : Str} {C N : Addr} {bs bm bmB : List Value} {hdct : Bool} {sn : List Str} {sub : List Value} {ab : Bool} {col : Option Bool} {dd : Option Addr} {k0 k1 k2 k3 k5 : Option Value} {B newId initId : String}
theorem xk_new (F : ExcBaseFacts B newId initId bmB) (hT : ∀ X : String, bm.contains (.type X) = bmB.contains (.type X)) {kw : List (Str × Value)}
    (hC : h.get? C = some (excClassObj nm q C N bs bm hdct sn sub ab col dd k0 k1 k2 k3 k5 newId))
    (hq : R (.ok (.ret (.ref (h.objs.size + 1)))) ⟨(h.push (W.kdv_tup [])).push (excO C h.objs.size), g, d, t, os⟩) :
    codeAny (model prog w) A (.builtin newId ⟨[.ref C], kw⟩) R ⟨h, g, d, t, os⟩ := by
  have he := F.ends
  have b1 : (Value.ref C :: bm).contains (.type B) = true := by rw [List.contains_cons, hT, F.hasB, Bool.or_true]
  have b2 : (Value.ref C :: bm).contains (.type "AttributeError") = false := by rw [List.contains_cons, hT, F.noAttr]; rfl
  have b3 : (Value.ref C :: bm).contains (.type "NameError") = false := by rw [List.contains_cons, hT, F.noName]; rfl
  have hrest : ([] : List Value).length ≤ sizeLine := Nat.zero_le _
  refine codeAny_builtinAt F.entry ?_
  unfold Builtin.«BaseException.__new__»
  refine wpAt_bind ?_
  show wpAt _ _ _ (stack >>= _) _ _ _
  refine wpAt_bind (wpAt_stack fun p below => wpAt_of_wpAny ?_)
  wp_walk
  refine wpAt_of_wpAny ?_
  rw [F.owner]
  repeat (first | with_reducible refine wpAny_madeHere_exc F.canon hC ?_ | with_reducible refine wpAny_loadPart_at hC ?_ | (with_reducible refine wpAny_isSubtype_exc hC ?_; first | rw [b1] | rw [b2] | rw [b3]) | wp_step)
  show R _ _
  rw [Heap.size_push]
  exact hq
theorem xk_type (F : ExcBaseFacts B newId initId bmB) (hT : ∀ X : String, bm.contains (.type X) = bmB.contains (.type X)) {kw : List (Str × Value)} {fI : Addr} {Q : Fin → Shared → Prop}
    (hC : h.get? C = some (excClassObj nm q C N bs bm hdct sn sub ab col dd k0 k1 k2 k3 k5 newId))
    (hi : W.Looks (model prog w) h (typeLookup (.ref C) "__init__") (some (.ref fI))) (hb : ∀ self, W.Looks (model prog w) h (bindSpecial (.ref fI) self) (.ref fI, [self]))
    (hq : codeAny (model prog w) A (.call (.ref fI) ⟨[.ref (h.objs.size + 1)], kw⟩)
      (fun r s' => match r with | .ok (.ret v) => v = .none ∧ Q (.done (.ret (.ref (h.objs.size + 1)))) s' | .ok _ => False | .error e => E e s')
      ⟨(h.push (W.kdv_tup [])).push (excO C h.objs.size), g, d, t, os⟩) :
    wpAny (model prog w) A (Builtin.«type.__call__» ⟨[.ref C], kw⟩) Q E ⟨h, g, d, t, os⟩ := by
  repeat (first | with_reducible refine wpAny_loadPart_at hC ?_ | with_reducible refine wpAny_madeBy_exc hC ?_ | wp_step)
  refine codeAny_call_builtin_code (Code.quiet_builtin _ F.quiet) (xk_check F hT hC ?_)
  refine xk_new F hT hC ?_
  show wpAny _ _ _ _ _ _
  have k : ∀ b o, h.get? b = some o → ((h.push (W.kdv_tup [])).push (excO C h.objs.size)).get? b = some o := fun b o e => Heap.get?_push_of_some _ (Heap.get?_push_of_some _ e)
  have hk := k _ _ hC
  have hx : ((h.push (W.kdv_tup [])).push (excO C h.objs.size)).get? (h.objs.size + 1) = some (excO C h.objs.size) := by heap_get
  have hs : (Value.ref C :: bm).contains (.ref C) = true := by simp
  have j1 := hi.keeps k
  have j2 := (hb (.ref (h.objs.size + 1))).keeps k
  unfold isInstance
  repeat (first | with_reducible refine wpAny_loadPart_at hx ?_ | (with_reducible refine wpAny_isSubtype_exc hk ?_; rw [hs]) | wp_step)
  show wpAny _ _ (typeLookup (.ref C) _) _ _ _
  refine j1.at ?_
  refine wpAny_holding (wpAny_bind (j2.at ?_))
  refine wpAny_bind (wpAny_call (codeAny_mono hq fun r s' z => ?_))
  rcases r with e | (v | _ | _ | _) <;> first | exact z | exact z.elim | skip
  obtain ⟨rfl, z⟩ := z
  first
    | exact wpAny_pure (wpAny_pure z)
    | (wp_walk; exact z)
theorem xk_call (F : ExcBaseFacts B newId initId bmB) (hT : ∀ X : String, bm.contains (.type X) = bmB.contains (.type X)) {kw : List (Str × Value)} {fI : Addr}
    (hC : h.get? C = some (excClassObj nm q C N bs bm hdct sn sub ab col dd k0 k1 k2 k3 k5 newId))
    (hi : W.Looks (model prog w) h (typeLookup (.ref C) "__init__") (some (.ref fI))) (hb : ∀ self, W.Looks (model prog w) h (bindSpecial (.ref fI) self) (.ref fI, [self]))
    (hq : codeAny (model prog w) (A.under (.builtin "type.__call__" ⟨[.ref C], kw⟩)) (.call (.ref fI) ⟨[.ref (h.objs.size + 1)], kw⟩) (W.InitBack (h.objs.size + 1) R)
      ⟨(h.push (W.kdv_tup [])).push (excO C h.objs.size), g, d, t, os⟩) :
    codeAny (model prog w) A (.call (.ref C) ⟨[], kw⟩) R ⟨h, g, d, t, os⟩ := by
  have f1 := tc_lookup
  have f2 := tc_bind (.ref C)
  have ht : (⟨h, g, d, t, os⟩ : Shared).TypeIs (.ref C) "type" := ⟨_, hC, rfl⟩
  refine codeAny_of_tree ?_
  show wpAny _ _ (callAny (.ref C) _) _ _ _
  repeat (any_goals (first | assumption | with_reducible refine wpAny_loadPart_at hC ?_ | wp_step))
  refine ⟨rfl, ?_⟩
  refine codeAny_call_builtin_at (Code.quiet_builtin _ (by decide +kernel)) entry_typeCall (wpAny_check_type_call_sub hC (xk_type F hT hC hi hb ?_))
  refine codeAny_mono hq fun r s' z => ?_
  rcases r with e | (v | _ | _ | _) <;> exact z
end
end XKC
end PySem
set_option Elab.async false
set_option linter.all false
set_option maxRecDepth 100000
set_option maxHeartbeats 2000000
namespace CL
open PySem PySem.Spec PyProof.Rows L2
variable [TheK]
variable {L : Tl} {T : Pm} {X : Cx} {W : WX}
/-- the own __init__ of an exception class with the attributes fs: what it does -/
def spX (C : Addr) (fs : List Str) : Sp := fun vs H Q E => ∃ a ws, vs = .ref a :: ws ∧ ws.length = fs.length ∧ H a = some (exo a C none) ∧
  ∀ dx H', H dx = none → dx ≠ a → H' a = some (exo a C (some dx)) → H' dx = some (exd dx (fs.zip ws).reverse) → (∀ b, b ≠ a → b ≠ dx → H' b = H b) → Q .non H'
structure XInit (P : Program) (w : World) (K : PySem.W.Frag) (mg : Str → Option Value) (base : Heap) (k : Nat) (C : Addr) (fs : List Str) : Prop where
  oex : OexC K C
  ex : ∃ fI fd, PySem.W.findIn K (.ref C) "__init__" = some (some (.ref fI)) ∧ PySem.W.typeIn K (.ref fI) = some (.type "function") ∧ FnOk P w K mg base (L2.CX P w) k fI fd (("self" : Str) :: fs) (spX C fs) ∧
    ∀ (s : Shared) (us ws : List Value), K.In s.heap → us.length = 1 → ws.length = fs.length → BindsTo s fd ⟨us, fs.zip ws⟩ ((("self" : Str) :: fs).zip (us ++ ws))
section
variable {o e : Expr} {es : List Expr} {to te : TE} {ta : TA} {f x : Str} {p p' p1 p2 pos : Pos} {mc : Value} {CB : Addr}
/-- B.__init__(self, ..), B an own class over ValueError without own __init__ -/
theorem pe_oinit {pl : Sem Bool} (hg : Gl X x) (hm : X.mg x = some (.ref CB)) (r : ClX.CRead X.K CB mc) (hv : PySem.W.findCls X.K (.ref CB) mc "__init__" = some (.val (.builtin "ValueError.__init__"))) (ha : PA X (e :: es) ta)
    (hdb : (x == ("__debug__" : Str)) = false := by decide)
    (hc : eval (.Call (.Attribute (.Name x p1) "__init__" p2) (e :: es) [] pos) X.env = (do
      let ov ← eval (.Name x p1) X.env
      standAt p2.atName
      let (f, first) ← holding [ov] (getMethod ov "__init__" pl)
      callWith pos f first (backTo pos (starEach (e :: es) X.env)) (backToKw pos (keywordEach [] X.env))) := by rfl)
    (he : starEach (e :: es) X.env = (false, eval e X.env) :: starEach es X.env := by rfl) (hpl : (backTo pos (starEach es X.env)).any (·.1) = false := by rfl) :
    PE X (.Call (.Attribute (.Name x p1) "__init__" p2) (e :: es) [] pos) (tVeI X.K ta) := by
  refine ⟨fun pins s σ H Q I h => ?_⟩
  refine PySem.W.methodCall_KW (ld_glob I hg hm ?_ hdb) hc
  refine PySem.W.method_cls I.kIn r.ga (PySem.W.cls_value I.kIn r.rd hv (by decide +kernel) ?_)
  refine PyProof.Rows.callWith_method1 (thn (ha.run pos pins _ σ H _ (I.tok _) h) fun us s1 ⟨vs, H1, I1, r1, a, C, ws, ev, hl, T, ea, q⟩ => ?_) he hpl
  subst ev
  cases r1 with
  | @cons _ u0 _ ur ra rw' =>
    obtain rfl : u0 = Value.ref a := ra
    have hlen : ur.length ≤ sizeLine := by
      rw [← Paired.length rw', sizeLine_eq]
      omega
    exact oinit_ok T I1 ea hlen fun s' J => ⟨.non, H1, J, rfl, q⟩
end
section
variable {P : Program} {w : World} {K : PySem.W.Frag} {mg : Str → Option Value} {base : Heap} {C : Addr} {f1 f2 m : Str} {x qual : Str} {st : Stmt} {fI : Addr} {fd : FuncData} {k : Nat}
theorem xinit1 (F : Fun K x qual st fI fd) (S : FnScope [("self" : Str), f1] [("self" : Str), f1] (defScope st)) (oex : OexC K C) (iC : PySem.W.findIn K (.ref C) "__init__" = some (some (.ref fI))) (tI : PySem.W.typeIn K (.ref fI) = some (.type "function")) (hf : PySem.W.findIn K (.ref C) f1 = some none)
    (hbind : ∀ (s : Shared) (us ws : List Value), K.In s.heap → us.length = 1 → ws.length = 1 → BindsTo s fd ⟨us, [f1].zip ws⟩ ([("self" : Str), f1].zip (us ++ ws)))
    (hb : ∀ (cdv : Value) (A : Around) (outer : List Env) (s : Shared) (H : Hp) (E : XK), PSs (cxOf (L2.CX P w) P w K mg base [("self" : Str), f1] qual (defScope st) fI cdv A outer s H E) (defBody st)
      (tSeq (tDrop (tVeI K (tCons (tVar 0) (tCons (tC (.str m)) tNil)))) (tOst K f1 (tVar 0) (tVar 1)))) : XInit P w K mg base (k + 1) C [f1] := by
  refine ⟨oex, fI, fd, iC, tI, F.okX S (fun vs H Q E h => ?_) (fun cdv A outer s H vs Q E hr h => ⟨_, hb cdv A outer s H E, ?_⟩), hbind⟩
  · obtain ⟨a, ws, rfl, hl, _⟩ := h
    simpa using hl
  · obtain ⟨a, ws, rfl, hl, ha, q⟩ := h
    match ws, hl with
    | [y], _ =>
      refine ⟨.ref a, rfl, a, C, [.str m], rfl, by simp, oex, ha, y, rfl, .ref a, rfl, a, C, rfl, oex, hf, .inl ⟨ha, fun dx hd hn => ?_⟩⟩
      exact q dx _ hd hn upd_same (by rw [upd_ne hn, upd_same]; rfl) fun b h1 h2 => by rw [upd_ne h1, upd_ne h2]
theorem xinit2 (F : Fun K x qual st fI fd) (S : FnScope [("self" : Str), f1, f2] [("self" : Str), f1, f2] (defScope st)) (oex : OexC K C) (iC : PySem.W.findIn K (.ref C) "__init__" = some (some (.ref fI))) (tI : PySem.W.typeIn K (.ref fI) = some (.type "function")) (hf : PySem.W.findIn K (.ref C) f1 = some none) (hf2 : PySem.W.findIn K (.ref C) f2 = some none)
    (hbind : ∀ (s : Shared) (us ws : List Value), K.In s.heap → us.length = 1 → ws.length = 2 → BindsTo s fd ⟨us, [f1, f2].zip ws⟩ ([("self" : Str), f1, f2].zip (us ++ ws)))
    (hb : ∀ (cdv : Value) (A : Around) (outer : List Env) (s : Shared) (H : Hp) (E : XK), PSs (cxOf (L2.CX P w) P w K mg base [("self" : Str), f1, f2] qual (defScope st) fI cdv A outer s H E) (defBody st)
      (tSeq (tDrop (tVeI K (tCons (tVar 0) (tCons (tC (.str m)) tNil)))) (tSeq (tOst K f1 (tVar 0) (tVar 1)) (tOst K f2 (tVar 0) (tVar 2))))) : XInit P w K mg base (k + 1) C [f1, f2] := by
  refine ⟨oex, fI, fd, iC, tI, F.okX S (fun vs H Q E h => ?_) (fun cdv A outer s H vs Q E hr h => ⟨_, hb cdv A outer s H E, ?_⟩), hbind⟩
  · obtain ⟨a, ws, rfl, hl, _⟩ := h
    simpa using hl
  · obtain ⟨a, ws, rfl, hl, ha, q⟩ := h
    match ws, hl with
    | [y, z], _ =>
      refine ⟨.ref a, rfl, a, C, [.str m], rfl, by simp, oex, ha, y, rfl, .ref a, rfl, a, C, rfl, oex, hf, .inl ⟨ha, fun dx hd hn => ?_⟩⟩
      refine ⟨z, rfl, .ref a, rfl, a, C, rfl, oex, hf2, .inr ⟨dx, [(f1, y)], upd_same, by rw [upd_ne hn, upd_same], by simp, ?_⟩⟩
      refine q dx _ hd hn (by rw [upd_ne (Ne.symm hn), upd_same]) (by rw [upd_same]; rfl) fun b h1 h2 => ?_
      rw [upd_ne h2, upd_ne h1, upd_ne h2]
end
/-- C(k = v, ..): the exception comes -/
def tMkX (C : Addr) (fs : List Str) (tk : TA) : L2.St → Hp → XK → Prop := fun σ H Q => tk σ H fun zs H1 => zs.length = fs.length ∧ ∀ d, H1 d = none → Q (.ref C) (some d) (upd H1 d (.xd (fs.zip zs).reverse))
section
variable {x : Str} {C : Addr} {fs : List Str} {k : Nat} {kws : List Keyword} {tk : TA} {p pos : Pos}
theorem pmk_kw (N : XInit X.prog X.w X.K X.mg X.base k C fs) (hr : Room (k + 1) X.A) (hg : Gl X x) (hm : X.mg x = some (.ref C)) (hkw : PK X kws tk)
    (hall : (backToKw pos (keywordEach kws X.env)).all (·.1.isSome) = true := by rfl) (hks : (backToKw pos (keywordEach kws X.env)).filterMap (·.1) = fs := by rfl) (hdb : (x == ("__debug__" : Str)) = false := by decide)
    (hpl : ((backTo pos (starEach [] X.env)).any (·.1) || (backToKw pos (keywordEach kws X.env)).any (·.1.isNone)) = false := by rfl) :
    PMk X (.Call (.Name x p) [] kws pos) (tMkX C fs tk) := by
  intro pins s σ H Q I h
  obtain ⟨oex, fI, fd, iC, tI, F1, hbind⟩ := N
  obtain ⟨nm, q, N, bs, bm, sn, sub, ab, col, dd, k0, k1, k2, k3, k5, hC, hbm⟩ := oex.cls
  refine wpAny_Call_Name_kw (ld_glob I hg hm ?_ hdb)
  refine PySem.W.callWith_KW0 (h₀ := X.base) I.ok.mod.kin oex.kC hall (thn (hkw.run pos pins s σ H _ I h) fun ws s1 ⟨zs, H1, I1, rz, lz, q1⟩ => ⟨I1.kIn, ?_⟩) hpl
  rw [hks]
  obtain ⟨hp, g, dr, tk, os⟩ := s1
  have hsz : hp.objs.size ≤ hp.objs.size + 1 := Nat.le_succ _
  have hn : H1 (hp.objs.size + 1) = none := I1.hok.fresh hsz
  have kk : ∀ b o, hp.get? b = some o → ((hp.push (PySem.W.kdv_tup [])).push (PySem.HandSPX.excO C hp.objs.size)).get? b = some o := fun b o e => Heap.get?_push_of_some _ (Heap.get?_push_of_some _ e)
  have hget : ((hp.push (PySem.W.kdv_tup [])).push (PySem.HandSPX.excO C hp.objs.size)).get? (hp.objs.size + 1) = some (PySem.HandSPX.excO C hp.objs.size) := by heap_get
  have I2 : Inv X pins σ (upd H1 (hp.objs.size + 1) (exo (hp.objs.size + 1) C none)) ⟨(hp.push (PySem.W.kdv_tup [])).push (PySem.HandSPX.excO C hp.objs.size), g, dr, tk, os⟩ :=
    I1.laid (t' := tk) (a := hp.objs.size + 1) (o := exo (hp.objs.size + 1) C none) (h' := (hp.push (PySem.W.kdv_tup [])).push (PySem.HandSPX.excO C hp.objs.size)) kk hsz (exo_ok hget)
  have r2 : Vals (V.ref (hp.objs.size + 1) :: zs) (Value.ref (hp.objs.size + 1) :: ws) := .cons rfl rz
  have hq : spX C fs (V.ref (hp.objs.size + 1) :: zs) (upd H1 (hp.objs.size + 1) (exo (hp.objs.size + 1) C none)) (fun v H2 => v = .non ∧ ∃ d, H1 d = none ∧ d ≠ hp.objs.size + 1 ∧ H2 (hp.objs.size + 1) = some (exo (hp.objs.size + 1) C (some d)) ∧ H2 d = some (exd d (fs.zip zs).reverse) ∧ ∀ b, b ≠ hp.objs.size + 1 → b ≠ d → H2 b = H1 b) (fun _ _ _ => False) := by
    refine ⟨_, zs, rfl, lz, upd_same, fun dx H' hd hdn e1 e2 e3 => ⟨rfl, dx, ?_, hdn, e1, e2, fun b h1 h2 => ?_⟩⟩
    · rw [upd_ne hdn] at hd; exact hd
    · rw [e3 b h1 h2, upd_ne h1]
  refine wpAny_call (PySem.XKC.xk_call F.excBase_ValueError (fun Y => PySem.HandSPX.refsVE_contains Y bm hbm) (I1.kIn _ _ hC) (PySem.W.looks_findIn I1.kIn iC) (fun self => PySem.W.bind_fn I1.kIn self tI)
    (codeAny_mono (F1.run _ X.stack _ _ ⟨[Value.ref (hp.objs.size + 1)], fs.zip ws⟩ (Value.ref (hp.objs.size + 1) :: ws) _ _ (fun _ _ _ => False) (hr.make C [] (fs.zip ws)) (I2.env0.make C [] (fs.zip ws)) (hbind _ [Value.ref (hp.objs.size + 1)] ws I2.kIn rfl (rz.length.symm.trans lz)) r2 hq) fun r s' hq' => ?_))
  cases r with
  | error er =>
    obtain ⟨_, _, _, _, _, _, _, _, _, _, _, _, z⟩ := (hq' : L2.CX X.prog X.w X.stack _ _ _ er s')
    exact z.elim
  | ok fl =>
    cases fl with
    | ret u =>
      obtain ⟨v, H2, os2, bare2, un2, hok2, rv, ev, d, hd1, hda, ea, ed, same⟩ := hq'
      subst ev
      obtain ⟨h2, g2, d2, t2, os'⟩ := s'
      refine ⟨rv, mk_end (raises_own oex.exC oex.tyC) I1 hsz kk un2 hok2 os2 bare2 ea ed hd1 ?_⟩
      have eq : upd (del H2 (hp.objs.size + 1)) d (.xd (fs.zip zs).reverse) = upd H1 d (.xd (fs.zip zs).reverse) := by
        funext b
        by_cases h1 : b = d
        · subst h1; rw [upd_same, upd_same]
        · rw [upd_ne h1, upd_ne h1]
          by_cases h2 : b = hp.objs.size + 1
          · subst h2; rw [del_same, hn]
          · rw [del_ne h2, same b h2 h1]
      rw [eq]
      exact q1 d hd1
    | next => exact False.elim hq'
    | brk => exact False.elim hq'
    | cont => exact False.elim hq'
end
/-- raise C(f = e, ..) -/
def sRaiseK (C : Addr) (fs : List Str) (ca : CA) : CS := fun z S => oDo (ca z S) z fun xs S' => if xs.length = fs.length then .exc ⟨C, fs.reverse, xs.reverse⟩ z S' else .bad
theorem zip_rev {α β : Type} : ∀ {xs : List α} {ys : List β}, xs.length = ys.length → (xs.zip ys).reverse = xs.reverse.zip ys.reverse := fun {xs ys} h => by
  rw [List.zip_eq_zipWith, List.zip_eq_zipWith, List.reverse_zipWith h]
theorem Rps.rev {I : List Addr} {B : Hp} : ∀ {vs : List V} {xs : List D}, Rps I B vs xs → Rps I B vs.reverse xs.reverse
  | [], [], _ => trivial
  | v :: vs, x :: xs, h => by
    rw [List.reverse_cons, List.reverse_cons]
    exact (Rps.rev h.2).append ⟨h.1, trivial⟩
  | [], _ :: _, h => h.elim
  | _ :: _, [], h => h.elim
section
variable {I0 : List Addr} {B0 H0 : Hp} {x : Str} {C : Addr} {fs : List Str} {k : Nat} {kws : List Keyword} {ca : CA} {p pos pos' : Pos} {e : Expr} {ce : CE} {kpos : Pos} {nm : Option Str}
theorem kw_nil : PK X [] (rdA T W aNil) := ⟨fun pos pins s σ H Q I ⟨H0, J, B, z, S, a, h⟩ => pk_nil.run pos pins s σ H Q I (Fin.here (x := ([] : List D)) (v := ([] : List V)) h a.st trivial)⟩
theorem kw_cons (ha : PE X e (rdE T W ce)) (hr : PK X kws (rdA T W ca)) : PK X (⟨nm, e, kpos⟩ :: kws) (rdA T W (aCons ce ca)) := by
  refine ⟨fun pos pins s σ H Q I h => (pk_cons ha hr).run pos pins s σ H Q I ?_⟩
  obtain ⟨H0, J, B, z, S, a, h⟩ := h
  refine bind (rep := Rp) (rep2 := Rps) (Q := Q) a h fun J B' H' S' v x g a1 r1 f1 => ?_
  refine bind (rep := Rps) (rep2 := Rps) (Q := Q) a1 f1 fun J2 B2 H2 S2 vs xs g2 a2 r2 f2 => ?_
  exact Fin.here (v := v :: vs) f2 a2.st ⟨r1.gr g2, r2⟩
theorem s_raiseK (hc : X.calm = true) (tk : Takes X W) (N : XInit X.prog X.w X.K X.mg X.base k C fs) (hr : Room (k + 1) X.A) (hg : Gl X x) (hm : X.mg x = some (.ref C)) (hkw : PK X kws (rdA T W ca))
    (hall : (backToKw pos (keywordEach kws X.env)).all (·.1.isSome) = true := by rfl) (hks : (backToKw pos (keywordEach kws X.env)).filterMap (·.1) = fs := by rfl) (hdb : (x == ("__debug__" : Str)) = false := by decide)
    (hpl : ((backTo pos (starEach [] X.env)).any (·.1) || (backToKw pos (keywordEach kws X.env)).any (·.1.isNone)) = false := by rfl) :
    PS X (.Raise (some (.Call (.Name x p) [] kws pos)) none pos') (rdS T I0 B0 H0 W (sRaiseK C fs ca)) := by
  refine ps_imp (ps_raise hc tk (pmk_kw N hr hg hm hkw hall hks hdb hpl)) ?_
  rintro D s H ⟨I, B, z, S, g, a, f⟩
  refine sdo (rep := Rps) g a f fun J B' H' S' v x g0 g1 a1 r1 f1 => ?_
  by_cases hl : x.length = fs.length
  · rw [if_pos hl] at f1
    refine ⟨by rw [r1.len]; exact hl, fun d hd => ?_⟩
    have nt : ∀ ps, (HO.xd (fs.zip v).reverse) ≠ .tbl ps := fun ps z => by cases z
    have gn := gr_new (I := J) (o := HO.xd (fs.zip v).reverse) hd a1.st.sub
    have a2 := a1.gr gn (a1.st.new hd nt)
    have hv : v.length = fs.length := by rw [r1.len]; exact hl
    refine f1 J _ _ s (.ref C) (some d) (g0.trans gn) gn.gb a2 ⟨rfl, .inr ⟨d, v.reverse, rfl, ?_, ?_, ?_⟩⟩
    · rw [upd_same]
      show some (HO.xd _) = some (HO.xd _)
      rw [zip_rev hv.symm]
    · simp [hv]
    · exact Rps.rev (r1.new a1.st hd)
  · rw [if_neg hl] at f1; exact f1.elim
/-- raise C('message'), C without own __init__ -/
def sRaiseM (C : Addr) : CS := fun z S => .exc ⟨C, [], []⟩ z S
theorem s_raiseM {m : Str} {j : Nat} {p2 : Pos} (hc : X.calm = true) (tk : Takes X W) (q : PySem.W.excIn X.K C PySem.HandSPX.veTail "ValueError.__new__" = true) (kC : PySem.W.keepIn X.K (.ref C) = true) (r : Raises X (.ref C)) (hg : Gl X x) (gC : X.mg x = some (.ref C))
    (hdb : (x == ("__debug__" : Str)) = false := by decide) : PS X (.Raise (some (.Call (.Name x p) [.Constant (.str m) j p2] [] pos)) none pos') (rdS T I0 B0 H0 W (sRaiseM C)) := by
  refine ps_imp (ps_raise hc tk (pmk_own F.excBase_ValueError q gC kC r hg hdb)) ?_
  rintro D s H ⟨I, B, z, S, g, a, f⟩
  exact f I B H s (.ref C) none g GB.rfl a ⟨rfl, .inl ⟨rfl, rfl⟩⟩
end
end CL
set_option Elab.async false
set_option linter.all false
set_option maxRecDepth 100000
set_option maxHeartbeats 2000000
namespace CL
open PySem PySem.Spec PyProof.Rows L2
variable [TheK]
variable {L : Tl} {F : Option (Addr × List Addr × Hp × Hp)} {T : Pm} {X : Cx} {W : WX}
def isX : SV → Bool
  | .x _ => true
  | _ => false
def noX (z : Sl) : Bool := z.all fun v => !isX v
/-- the suite's end: the name goes -/
def unx (i : Nat) : O → O
  | .nx z S => if noX (z.set i .u) then .nx (z.set i .u) S else .bad
  | .bk z S => if noX (z.set i .u) then .bk (z.set i .u) S else .bad
  | .ct z S => if noX (z.set i .u) then .ct (z.set i .u) S else .bad
  | .rt d S => .rt d S
  | .exc _ _ _ => .bad
  | .bad => .bad
section
variable {H0 : Hp} {I : List Addr} {B H : Hp} {s : L2.St} {z : Sl} {S : Store} {i : Nat}
theorem noX_at {z : Sl} (h : noX z = true) {i : Nat} {e : Exn} (q : z[i]? = some (.x e)) : False := by
  have := List.all_eq_true.mp h _ (List.mem_of_getElem? q)
  cases this
theorem At.swap {T' : Pm} (a : At T H0 I B H s z S) (ht : T'.tabs = T.tabs) (hfn : T'.fn = T.fn) (h : ∀ (i : Nat) (e : Exn), z[i]? ≠ some (SV.x e)) : At T' H0 I B H s z S := by
  refine ⟨⟨a.sl.len, fun i o y h1 h2 => ?_, a.sl.ne⟩, by rw [ht]; exact a.st⟩
  have q := a.sl.ok i o y h1 h2
  cases y with
  | x e => exact (h i e h2).elim
  | f =>
    obtain ⟨b, I1, B1, H1, e1, e2⟩ := q
    exact ⟨b, I1, B1, H1, by rw [hfn]; exact e1, e2⟩
  | u => exact q
  | d x => exact q
  | l xs => exact q
  | m ks xs => exact q
/-- the exception is stored -/
theorem At.setX {a : Addr} {c : Value} {d : Option Addr} {e : Exn} (h : At ⟨L, none, F⟩ H0 I B H s z S) (i : Nat) (r : RpX I B c d e) : At ⟨L, some (a, c, d), F⟩ H0 I B H (s.set i (some (.ref a))) (z.set i (.x e)) S := by
  have h' : At ⟨L, some (a, c, d), F⟩ H0 I B H s z S := h.swap rfl rfl fun j e q => by
    obtain ⟨o, _, p⟩ := h.sl.get q
    obtain ⟨_, _, z, _⟩ := p
    cases z
  refine ⟨⟨by simp [h'.sl.len], fun j o y h1 h2 => ?_, fun j k b y w h1 h2 h3 h4 o1 o2 => ?_⟩, h'.st⟩
  · rw [List.getElem?_set] at h1 h2
    by_cases q : i = j
    · subst q
      rw [if_pos rfl] at h1 h2
      split at h1
      · split at h2
        · cases h1; cases h2
          exact ⟨a, d, by rw [r.1], rfl, by rw [← r.1]; exact r⟩
        · cases h2
      · cases h1
    · rw [if_neg q] at h1 h2
      exact h'.sl.ok j o y h1 h2
  · have q : ∀ {k : Nat} {w : SV}, (z.set i (.x e))[k]? = some w → isOwn w = true → k ≠ i := fun {k w} e o q => by
      subst q
      rw [List.getElem?_set_self'] at e
      cases t : z[k]? with
      | none => rw [t] at e; cases e
      | some _ => rw [t] at e; cases e; cases o
    have n1 := q h3 o1
    have n2 := q h4 o2
    rw [List.getElem?_set_ne (Ne.symm n1)] at h1 h3
    rw [List.getElem?_set_ne (Ne.symm n2)] at h2 h4
    exact h'.sl.ne j k b y w h1 h2 h3 h4 o1 o2
end
def cXf (C : Addr) (f : Str) (i : Nat) : CE := fun z S => match z[i]? with
  | some (.x e) => if e.cls = C then match (e.ns.zip e.xs).lookup f with
    | some v => .ok v S
    | none => .bad else .bad
  | _ => .bad
section
variable {a : Addr} {cls : Value} {d : Option Addr} {oe : Obj} {pn : List (Addr × Obj)} {i : Nat} {n x : Str} {p p1 p2 pos : Pos} {kit : Addr → Option Bool}
theorem xslot {H0 : Hp} {I : List Addr} {B H : Hp} {s : L2.St} {z : Sl} {S : Store} {e : Exn} (h : At ⟨L, some (a, cls, d), F⟩ H0 I B H s z S) (q : z[i]? = some (.x e)) : s[i]? = some (some (.ref a)) ∧ cls = .ref e.cls ∧ RpX I B (.ref e.cls) d e := by
  obtain ⟨o, h1, a', d', h2, h3, h4⟩ := h.sl.get q
  have h2' : some (a, cls, d) = some (a', Value.ref e.cls, d') := h2
  cases h2'
  subst h3
  exact ⟨h1, rfl, h4⟩
/-- e.f -/
theorem e_xf {C : Addr} {fl : Str} (hz : Zc cls d oe) (hf : ∃ vs, oe.data = .fields vs) (hN : X.N[i]? = some n) (hv : Vis X.env.scope n) (xc : XfC X.K C) (hno : PySem.W.findIn X.K (.ref C) fl = some none)
    (hd : (n == ("__debug__" : Str)) = false := by decide) (hcd : (n == ("__classdict__" : Str)) = false := by decide) (hb : attributeBase (.Name n p1) fl X.env (eval (.Name n p1) X.env) = eval (.Name n p1) X.env := by rfl) :
    PE (X.suite a ((a, oe) :: pn)) (.Attribute (.Name n p1) fl pos) (rdE ⟨L, some (a, cls, d), F⟩ wNo (cXf C fl i)) := by
  refine pe_imp (pe_xf xc hno hz hf (pe_var (X := X.suite a ((a, oe) :: pn)) (i := i) hN hv hd hcd) hb) ?_
  rintro s H Q ⟨H0, I, B, z, S, at_, f⟩
  unfold cXf at f
  cases q : z[i]? with
  | none => rw [q] at f; exact f.elim
  | some y =>
    cases y with
    | x e =>
      rw [q] at f
      dsimp only at f
      obtain ⟨h1, h2, h3⟩ := xslot at_ q
      by_cases hC : e.cls = C
      · rw [if_pos hC] at f
        cases q2 : (e.ns.zip e.xs).lookup fl with
        | none => rw [q2] at f; exact f.elim
        | some y =>
          rw [q2] at f
          rcases h3.2 with ⟨z, _⟩ | ⟨a', vs, e1, e2, e3, e4⟩
          · rw [z] at q2; cases q2
          · obtain ⟨u, l1, l2⟩ := lookup_rps e3 e4 q2
            exact ⟨.ref a, h1, rfl, by rw [h2, hC], a', _, u, e1, at_.st.sub _ _ e2, l1, f.here at_.st l2⟩
      · rw [if_neg hC] at f; exact f.elim
    | u => rw [q] at f; exact f.elim
    | f => rw [q] at f; exact f.elim
    | d _ => rw [q] at f; exact f.elim
    | l _ => rw [q] at f; exact f.elim
    | m _ _ => rw [q] at f; exact f.elim
end
end CL
set_option Elab.async false
set_option linter.all false
set_option maxRecDepth 100000
set_option maxHeartbeats 2000000
namespace CL
open PySem PySem.Spec PyProof.Rows L2 LamX
variable [TheK]
abbrev tabsOf (TL : List (Addr × Str)) : List NdefX.NTab := TL.map fun p => (p.1, fun _ _ => p.2)
theorem tabs_iff {TL : List (Addr × Str)} {H : Hp} : NdefX.TabsN (tabsOf TL) H ↔ Tabs TL H :=
  ⟨fun t p hp => (t (p.1, fun _ _ => p.2) (List.mem_map.mpr ⟨p, hp, rfl⟩)), fun t p hp => by
    obtain ⟨q, hq, rfl⟩ := List.mem_map.mp hp
    exact t q hq⟩
section
variable {L : Tl} {I : List Addr} {B H H1 : Hp} {S : Store} {c : Addr} {q : Str}
theorem lamO_code {D : LamD} {a c' : Addr} {dV doc pm ctv : Value} {q : Str} : LamO D c' dV doc pm ctv ≠ CodeO a q := by
  intro z
  unfold LamO CodeO at z
  cases z
theorem Sto.codeOut (st : Sto L I B H S) (h : H c = some (CodeO c q)) : c ∉ I := fun hm => by
  obtain ⟨k, hk⟩ := List.mem_iff_getElem?.mp hm
  have hl : k < S.length := by
    have := (List.getElem?_eq_some_iff.mp hk).1
    rw [st.len] at this; exact this
  obtain ⟨b, u, h1, h2, h3⟩ := st.at_ k S[k] (List.getElem?_eq_getElem hl)
  rw [hk] at h1; cases h1
  rw [h] at h2; cases h2
  unfold CodeO at h3
  revert h3
  generalize S[k] = m
  intro h3
  cases m with
  | lst _ => obtain ⟨_, z, _⟩ := h3; cases z
  | dct _ _ => obtain ⟨_, z, _⟩ := h3; cases z
  | ins _ _ _ => obtain ⟨_, _, z, _⟩ := h3; cases z
  | lk _ _ => obtain ⟨_, _, z, _⟩ := h3; cases z
  | fn _ =>
    obtain ⟨D, c2, dV, doc, pm, ctv, z, _⟩ := h3
    exact lamO_code z.symm
theorem Sto.codes (st : Sto L I B H S) {L' : Tl} (h : TbOk L' H) (k : ∀ id D, L'.2.2 id = some D → L.2.2 id = some D := by exact fun _ _ h => h) : Sto L' I B H S := ⟨st.len, st.nd, st.dj, st.sub, st.nt, fun i m q => let ⟨a, o, h1, h2, h3⟩ := st.at_ i m q; ⟨a, o, h1, h2, h3.tab k⟩, h⟩
/-- all but tables stay -/
theorem gr_ext (e : ExtN H H1) : Gr I B H I B H1 where
  pre := ⟨[], by simp, by simp⟩
  ext := fun _ _ h => h
  new := fun _ _ h => .inl h
  keep := fun a o h _ t => e a o h t
  dom := fun a h o q => by
    cases o with
    | tbl ps => exact ⟨ps, rfl⟩
    | _ => exact h _ (e a _ q (fun _ z => by cases z))
theorem Sto.ext {L' : Tl} (st : Sto L I B H S) (e : ExtN H H1) (t : TbOk L' H1) (k : ∀ id D, L'.2.2 id = some D → L.2.2 id = some D := by exact fun _ _ h => h) : Sto L' I B H1 S :=
  ⟨st.len, st.nd, st.dj, fun a o h => e _ _ (st.sub a o h) (st.nt a o h), st.nt, fun i m h => by
    obtain ⟨a, o, h1, h2, h3⟩ := st.at_ i m h
    exact ⟨a, o, h1, e _ _ h2 h3.nt, (h3.cod fun c q h => e _ _ h codeO_ne).tab k⟩, t⟩
end
end CL
set_option Elab.async false
set_option linter.all false
set_option maxRecDepth 100000
set_option maxHeartbeats 2000000
namespace PySem
namespace ENT
open Sem (wp)
/-- enumerate(v): iter(v) is a new object o -/
theorem enew {v : Value} {o : Obj} {HH : Heap → Prop} (Bg : Begins v o HH) :
    Meets (Builtin.«enumerate.__new__» ⟨[.type "enumerate", v], []⟩) (fun _ R s => HH s.heap ∧
      R (.ok (.ret (.ref (s.heap.push o).objs.size))) { s with heap := (s.heap.push o).push { cls := .type "enumerate", data := .fields #[.none, .bool false, .ref s.heap.objs.size, rawInt 0, .none, .none] } }) :=
  .of_wp fun prog w A R s h => by
    obtain ⟨hp, g, d, tk, os⟩ := s
    obtain ⟨h0, h⟩ := h
    have hsub := sub_enumerate
    have q : ∀ {A' : Around} {E : Value → Shared → Prop} {Q : Value → Shared → Prop}, Q (.ref hp.objs.size) ⟨hp.push o, g, d, tk, os⟩ → wpAny (model prog w) A' (pyIter v) Q E ⟨hp, g, d, tk, os⟩ :=
      fun z => Bg.iter prog w _ _ ⟨hp, g, d, tk, os⟩ _ h0 z
    wp_walk
    refine wpAny_stack_any fun st => wpAny_pure ?_
    split
    · rename_i c _ _ _ _ _
      cases (c == Value.type "enumerate")
      · wp_walk using q
        exact ⟨_, rfl, h⟩
      · wp_walk using q
        exact ⟨_, rfl, h⟩
    · wp_walk using q
      exact ⟨_, rfl, h⟩
section
variable {prog : Program} {w : World} {A : Around} {E : Value → Shared → Prop} {s : Shared}
theorem call_enum {v : Value} {o : Obj} {HH : Heap → Prop} {Q : Value → Shared → Prop} (Bg : Begins v o HH) (h0 : HH s.heap)
    (h : ∀ h', IsEnum h' (s.heap.objs.size + 1) s.heap.objs.size 0 .none → h'.get? s.heap.objs.size = some o → h'.objs.size = s.heap.objs.size + 2 →
      (∀ b u, s.heap.get? b = some u → h'.get? b = some u) → Q (.ref (s.heap.objs.size + 1)) { s with heap := h' }) :
    wpAny (model prog w) A (call (.type "enumerate") [v]) Q E s := by
  have hz : (s.heap.push o).objs.size = s.heap.objs.size + 1 := Heap.size_push ..
  have ho : (s.heap.push o).get? s.heap.objs.size = some o := Heap.get?_push_size _ Bg.free
  refine callType_new F.called_enumerate (by decide) (F.typeCall_enumerate_1 _) (F.newCall_enumerate_1 _) (fun obj => F.args_object_init_2 obj _) F.entry_enumerate_new (enew Bg) ⟨h0, ?_⟩
  show _ ∧ _
  rw [hz]
  have he : IsEnum ((s.heap.push o).push { cls := .type "enumerate", data := .fields #[.none, .bool false, .ref s.heap.objs.size, rawInt 0, .none, .none] }) (s.heap.objs.size + 1) s.heap.objs.size 0 .none := by
    have q := Heap.get?_push_size (s.heap.push o) (o := { cls := .type "enumerate", data := .fields #[.none, .bool false, .ref s.heap.objs.size, rawInt 0, .none, .none] }) rfl
    rw [hz] at q
    exact q
  exact ⟨⟨_, he, rfl⟩, h _ he (Heap.get?_push_of_some _ ho) (by rw [Heap.size_push, hz]) fun b u x => Heap.get?_push_of_some _ (Heap.get?_push_of_some _ x)⟩
end
end ENT
end PySem
namespace CL
open PySem PySem.Spec PyProof.Rows L2
variable [TheK]
/-- the tuple at a, each item in a new pair -/
def IteT (K : PySem.W.Frag) (a : Addr) : It :=
  ⟨fun i H => ∃ (xs : List V) (x : V), SqT K H a xs ∧ xs[i]? = some x, fun i H v H' => ∃ p x, v = .ref p ∧ H p = none ∧ H' = upd H p (.tup [.int (i : Nat), x]) ∧ ∀ xs, SqT K H a xs → xs[i]? = some x, fun i H => ∃ xs : List V, SqT K H a xs ∧ xs.length = i⟩
theorem turn_enT {P : Program} {w : World} {K : PySem.W.Frag} {tgs : List Expr} {kk : Nat} {tpos : Pos} (a e it : Addr) :
    Turn P w K (.Tuple tgs kk tpos) (IteT K a) [e, it] e (fun i h => (∃ old, IsEnum h e it ((i : Nat) : Int) old) ∧ h.IsTupleIter it a i ∧ e ≠ it ∧ a ≠ it ∧ a ≠ e) where
  mem := by simp
  obj := fun i h st b hb => by
    obtain ⟨⟨old, h1⟩, ⟨o, h2, _, h3⟩, _⟩ := st
    rcases (show b = e ∨ b = it by simpa using hb) with z | z
    · subst z
      exact ⟨_, h1, fun v q => nomatch q⟩
    · subst z
      exact ⟨o, h2, fun v q => by rw [h3] at q; cases q⟩
  keep := fun i h h' st k => by
    obtain ⟨⟨old, h1⟩, h2, h3⟩ := st
    exact ⟨⟨old, k e (by simp) _ h1⟩, h2.at fun o q => k it (by simp) o q, h3⟩
  item := by
    intro X hP hw hK hc i pins s σ H E I hf st hg
    subst hP hw hK
    obtain ⟨⟨old, he⟩, hit, hne, hai, hae⟩ := st
    obtain ⟨xs, x, hq, hx⟩ := hg
    obtain ⟨its, rv, p, hz⟩ := I.tuple hq
    obtain ⟨u, hu, ru⟩ := rv.get hx
    have pt : s.heap.IsTuple a its.toArray := p
    have D := Draws.tuple (prog := X.prog) (w := X.w) (A := X.A.in1) (I.ok.hd hc) it a hai its.toArray
    have hel : e < s.heap.objs.size := Heap.lt_size he
    have hil : it < s.heap.objs.size := by obtain ⟨_, q, _⟩ := hit; exact Heap.lt_size q
    have hlt : i < its.toArray.size := by
      have := (List.getElem?_eq_some_iff.mp hu).1
      simpa using this
    refine wpAny_pyNext_enum_itemC D he ⟨hit, pt⟩ hlt hne (by simp [hne, Ne.symm hae]) fun y h1 tk hy ho hst hT hsz hk => ?_
    have hyu : y = u := by
      have q : its.toArray[i]? = some y := hy
      simp only [List.getElem?_toArray] at q
      rw [hu] at q; exact (Option.some.inj q).symm
    subst hyu
    refine ⟨_, rfl, wpAny_letOwnedTupleGo_enum (s := { s with heap := h1, toks := tk + 1 }) ho fun h2 he2 sb => ?_⟩
    have hT2 : h2.get? s.heap.objs.size = some { cls := .type "tuple", data := .seq #[.int i tk, y] } := (sb.2 _ (Nat.ne_of_gt hel)).trans hT
    have new : ObjOk X.prog X.w (upd H s.heap.objs.size (.tup [.int (i : Nat), x])) h2 s.heap.objs.size (.tup [.int (i : Nat), x]) :=
      ⟨by show 2 ≤ sizeLine; decide, [.int i tk, y], .cons ⟨_, rfl⟩ (.cons ru .nil), ⟨_, hT2, rfl, _, rfl⟩⟩
    have I1 : Inv X pins σ (upd H s.heap.objs.size (.tup [.int (i : Nat), x])) { s with heap := h2, toks := tk + 1 } :=
      I.turnedNew (ch := [e, it]) (fun b ob hb q => by
        have hb1 : b ≠ e := fun z => hb (by simp [z])
        have hb2 : b ≠ it := fun z => hb (by simp [z])
        exact (sb.2 b hb1).trans (hk b ob hb1 hb2 q)) hf (Nat.le_refl _) new
    refine ⟨.ref s.heap.objs.size, _, I1, rfl, ⟨_, x, rfl, I.hok.fresh (Nat.le_refl _), rfl, fun ys hy => by rw [I.tuple_inj hy hq]; exact hx⟩, ⟨⟨y, ?_⟩, hst.1.at fun o q => (sb.2 it (Ne.symm hne)).trans q, hne, hai, hae⟩, fun b hb => ?_⟩
    · have e1 : ((i + 1 : Nat) : Int) = (i : Int) + 1 := by omega
      rw [e1]
      exact he2
    · have hb' : b < s.heap.objs.size := by
        rcases (show b = e ∨ b = it by simpa using hb) with z | z
        · rw [z]; exact hel
        · rw [z]; exact hil
      rw [upd_ne (Nat.ne_of_lt hb')]
      exact (hf b hb).1
  done := by
    intro X hP hw hK hc i pins s σ H E I hf st hg
    subst hP hw hK
    obtain ⟨⟨old, he⟩, hit, hne, hai, hae⟩ := st
    obtain ⟨xs, hq, hx⟩ := hg
    obtain ⟨its, rv, p, hz⟩ := I.tuple hq
    have pt : s.heap.IsTuple a its.toArray := p
    obtain ⟨f0, f1, f2, f3, f4, f5⟩ := hf it (by simp)
    have hl := rv.length
    have D0 := Draws.tuple (prog := X.prog) (w := X.w) (A := X.A.in1) (I.ok.hd hc) it a hai its.toArray
    have es : its.toArray.size = i := by simp; omega
    rw [es] at D0
    exact wpAny_pyNext_enum_endD D0 he ⟨hit, pt⟩ fun h' eb => ⟨rfl, I.turned (t' := s.toks) (fun b o hb q => eb b o hb q) f0 f1 f3 f4 f5⟩
  self := fun A i s Q E st h => by
    obtain ⟨⟨_, he⟩, _⟩ := st
    exact wpAny_pyIter_enum he h
def iEnT (K : PySem.W.Frag) (ta : TA) : TI := fun σ H R => ta σ H fun vs H1 => ∃ a xs, vs = [.ref a] ∧ ((SqL K H1 a xs ∧ R (Ite K a) H1) ∨ (SqT K H1 a xs ∧ R (IteT K a) H1))
theorem pi_enA {X : Cx} {e : Expr} {ta : TA} {p pos tpos : Pos} {tgs : List Expr} {kk : Nat} (hg : Gl X "enumerate") (hm : X.mg "enumerate" = none) (ha : PA X [e] ta) (hs : starEach [e] X.env = [(false, eval e X.env)] := by rfl) :
    PI X (.Tuple tgs kk tpos) (.Call (.Name "enumerate" p) [e] [] pos) (iEnT X.K ta) := by
  refine ⟨fun pins s σ H R I h => ?_⟩
  refine Call_ (ld_blt I hg hm boot_enumerate (PyProof.Rows.callWith_type1 (thn (ha.run pos pins s σ H _ I h) fun us s1 ⟨vs, H1, I1, r1, q1⟩ => ?_) hs rfl))
  obtain ⟨a, xs, rfl, q1⟩ := q1
  cases r1 with
  | cons r rr =>
    cases rr
    cases r
    have two : ∀ b, b ∈ [s1.heap.objs.size + 1, s1.heap.objs.size] → FpOk X pins H1 b := fun b hb => by
      have hle : s1.heap.objs.size ≤ b := by
        rcases (show b = s1.heap.objs.size + 1 ∨ b = s1.heap.objs.size by simpa using hb) with z | z
        · rw [z]; exact Nat.le_add_right _ _
        · rw [z]; exact Nat.le_refl _
      exact I1.fpOk hle (I1.hok.fresh hle)
    rcases q1 with ⟨hq, q⟩ | ⟨hq, q⟩
    · obtain ⟨its, rv, p', _⟩ := I1.list hq
      refine ENT.call_enum (begins_list a its.toArray) p'.isList fun h' he hit hsz hk => wpAny_pyIter_enum he ?_
      exact ⟨s1.heap.objs.size + 1, [s1.heap.objs.size + 1, s1.heap.objs.size], _, _, H1, rfl, I1.kept (t' := s1.toks) hk, turn_enum a (s1.heap.objs.size + 1) s1.heap.objs.size, ⟨⟨.none, he⟩, ⟨_, hit, rfl, rfl⟩, Nat.succ_ne_self _⟩, two, q⟩
    · obtain ⟨its, rv, p', _⟩ := I1.tuple hq
      have pt : s1.heap.IsTuple a its.toArray := p'
      obtain ⟨o, ho, _⟩ := id pt
      have hlt := Heap.lt_size ho
      refine ENT.call_enum (begins_tuple a its.toArray) pt fun h' he hit hsz hk => wpAny_pyIter_enum he ?_
      exact ⟨s1.heap.objs.size + 1, [s1.heap.objs.size + 1, s1.heap.objs.size], _, _, H1, rfl, I1.kept (t' := s1.toks) hk, turn_enT a (s1.heap.objs.size + 1) s1.heap.objs.size, ⟨⟨.none, he⟩, ⟨_, hit, rfl, rfl⟩, Nat.succ_ne_self _, Nat.ne_of_lt hlt, Nat.ne_of_lt (Nat.lt_succ_of_lt hlt)⟩, two, q⟩
variable {L : Tl} {T : Pm} {X : Cx} {W : WX}
theorem walk_enT {K : PySem.W.Frag} {a : Addr} {xs : List V} : Walk (IteT K a) xs.length (fun H => SqT K H a xs) (YPair (fun i => some (.int (i : Nat))) (fun i => xs[i]?)) := by
  refine ⟨fun i _ hi q => ⟨xs, xs[i], q, by simp [hi]⟩, fun _ q => ⟨xs, q, rfl⟩, fun i H v H' _ q y => ?_⟩
  obtain ⟨p, x, h1, h2, h3, h4⟩ := y
  exact ⟨p, .int (i : Nat), x, h1, h2, h3, rfl, h4 xs q⟩
theorem enum_at {xs : List D} {i : Nat} (h : i < xs.length) : (enumD xs)[i]? = some (.tup [.int (i : Nat), xs[i]]) := by
  unfold enumD
  simp [h]
theorem i_enum {tgs : List Expr} {kk : Nat} {tpos p pos : Pos} {e : Expr} {ce : CE} (hg : Gl X "enumerate") (hm : X.mg "enumerate" = none) (he : PE X e (rdE T W ce)) (hs : starEach [e] X.env = [(false, eval e X.env)] := by rfl) :
    PI X (.Tuple tgs kk tpos) (.Call (.Name "enumerate" p) [e] [] pos) (rdI T W (CL.iEnum ce)) := by
  refine pi_imp (pi_enA hg hm (pa_cons he pa_nil hs) hs) ?_
  rintro s H R ⟨H0, I, B, z, S, a, h⟩
  refine bindI (rep := Rp) a h fun J B' H' S' v x g a1 r1 f1 => ?_
  cases x with
  | tup xs =>
    obtain ⟨c, vs, rfl, hc, hb, rv⟩ := Rp.tup a1.st r1
    refine ⟨c, vs, rfl, .inr ⟨SqT.of hc, f1 J B' H' _ (Gr.refl _ _ _) a1.st (Wk.pairs walk_enT (by rw [rv.len]; simp [enumD]) (fun i x y e1 e2 hi => ?_) fun g st => SqT.of (st.sub _ _ (g.ext _ _ hb)))⟩⟩
    cases e1
    have hl : i < xs.length := by rw [← rv.len]; exact hi
    exact ⟨.int (i : Nat), xs[i], enum_at hl, rfl, rv.at_ e2 (List.getElem?_eq_getElem hl)⟩
  | lst xs =>
    obtain ⟨c, vs, rfl, hc, hb, rv⟩ := Rp.lst a1.st r1
    refine ⟨c, vs, rfl, .inl ⟨SqL.of hc, f1 J B' H' _ (Gr.refl _ _ _) a1.st (Wk.pairs walk_enum (by rw [rv.len]; simp [enumD]) (fun i x y e1 e2 hi => ?_) fun g st => SqL.of (st.sub _ _ (g.ext _ _ hb)))⟩⟩
    cases e1
    have hl : i < xs.length := by rw [← rv.len]; exact hi
    exact ⟨.int (i : Nat), xs[i], enum_at hl, rfl, rv.at_ e2 (List.getElem?_eq_getElem hl)⟩
  | _ => exact f1.elim
end CL
set_option Elab.async false
set_option linter.all false
set_option maxRecDepth 100000
set_option maxHeartbeats 2000000
namespace CL
open PySem PySem.Spec PyProof.Rows L2
variable [TheK]
variable {L : Tl} {T : Pm} {X : Cx} {W : WX}
section
variable {k : Nat} {f C : Addr} {fd : FuncData} {ps : List Str} {g : G} {x : Str} {p pos apos : Pos} {e o : Expr} {es : List Expr} {co ce : CE} {ca : CA} {E : XK}
/-- a new object: what is to be shown of the call -/
theorem make_read {s : L2.St} {H : Hp} {Q : VK} {n : Nat} (hn : AN ca n) (hp : ps.length = n + 1) (h : rdE T (kW E) (cMake C g ca) s H Q) : L2.tMake C (spG T.tabs ps.length g) [] E (rdA T (kW E) ca) s H Q := by
  revert s H Q
  rintro s H Q ⟨H0, I, B, z, S, a, h⟩
  unfold cMake at h
  have hn' := hn z S
  cases q : ca z S with
  | bad => rw [q] at h; exact h.elim
  | exc y S' =>
    refine ⟨H0, I, B, z, S, a, ?_⟩
    rw [q] at h ⊢
    exact h
  | ok ys S' =>
    refine ⟨H0, I, B, z, S, a, ?_⟩
    rw [q] at h ⊢
    simp only [R.bind] at h
    intro J B' H' vs g1 st1 r1 xa dx hxa hdx hne
    rw [List.append_nil]
    have a1 := a.gr g1 st1
    have h := Fin.gr h g1
    have a2 := a1.keep (keep_new (o := HO.own xa) hdx)
    have n2 : upd H' dx (.own xa) xa = none := by rw [upd_ne (Ne.symm hne)]; exact hxa
    have a3 := a2.grow (u := .ins C dx []) (m := .ins C [] []) n2 ⟨dx, [], rfl, rfl, trivial⟩
    have gg : Gr J B' H' (J ++ [xa]) B' (upd (upd H' dx (.own xa)) xa (.ins C dx [])) := by
      refine ⟨⟨[xa], rfl, fun b hb => ?_⟩, fun _ _ h => h, fun _ _ h => .inl h, fun b o hb _ _ => keep_new n2 b o (keep_new hdx b o hb), fun b hb => (hb.down fun q => ?_).down fun q => ?_⟩
      · have : b = xa := by simpa using hb
        subst this; exact .of hxa
      · subst q; exact .of n2
      · subst q; exact .of hdx
    have rx : Rp (J ++ [xa]) B' (.ref xa) (.ptr S'.length) := ⟨xa, by rw [← st1.len]; simp, rfl⟩
    refine call_sp (W := kW E) (s := s) (ds := .ptr S'.length :: ys) (by simp [r1.len, hn' ys S' q, hp]) a3 ⟨rx, r1.gr gg⟩ ?_ fun _ _ _ h => h
    cases q2 : g (.ptr S'.length :: ys) (S' ++ [.ins C [] []]) with
    | bad => rw [q2] at h; exact h.elim
    | exc y S2 => rw [q2] at h; exact fun J2 B2 H2 c dd g2 => h J2 B2 H2 c dd (gg.trans g2)
    | ok d S2 =>
      rw [q2] at h
      intro J2 B2 H2 v g2 st2 rv
      cases d with
      | non => exact ⟨rv, h J2 B2 H2 (.ref xa) (gg.trans g2) st2 (rx.gr g2)⟩
      | _ => exact h.elim
/-- C(e, ..) -/
theorem e_make (M : Mk X.K C f) (F : FnC X.prog X.w X.K X.mg X.base T.tabs k f fd ps g) (hr : Room (k + 1) X.A) (hg : Gl X x) (hm : X.mg x = some (.ref C)) (hb : L2.Binds X.K fd ps []) (hx : Passes (L2.CX X.prog X.w) X E) (ha : PA X (e :: es) (rdA T (kW E) ca)) {n : Nat} (hn : AN ca n) (hp : ps.length = n + 1)
    (hdb : (x == ("__debug__" : Str)) = false := by decide) (he : starEach (e :: es) X.env = (false, eval e X.env) :: starEach es X.env := by rfl) (hpl : (backTo pos (starEach es X.env)).any (·.1) = false := by rfl) :
    PE X (.Call (.Name x p) (e :: es) [] pos) (rdE T (kW E) (cMake C g ca)) := by
  exact pe_imp (pe_make M F hr hg hm hb .nil hx ha hdb he hpl) fun _ _ _ h => make_read hn hp h
/-- a new list, laid into the store -/
def cToP (c : CE) : CE := fun z S => (c z S).bind fun d S' => match d with
  | .lst xs => .ok (.ptr S'.length) (S' ++ [.lst xs])
  | _ => .bad
theorem e_toP (he : PE X e (rdF T W ce)) : PE X e (rdE T W (cToP ce)) := by
  refine pe_imp he ?_
  rintro s H Q ⟨H0, I, B, z, S, a, h⟩
  unfold cToP at h
  refine ⟨H0, I, B, z, S, a, ?_⟩
  cases q : ce z S with
  | bad => rw [q] at h; exact h.elim
  | exc y S' => rw [q] at h; exact h
  | ok d S' =>
    rw [q] at h
    cases d with
    | lst xs =>
      intro J B' H' p vs g st hp r
      exact h (J ++ [p]) B' _ (.ref p) (g.trans (gr_grow st hp)) ((a.gr g st).grow (u := .lst vs) (m := .lst xs) hp ⟨vs, rfl, r.mono ⟨[p], rfl⟩ (xs := xs) fun _ _ h => h⟩).st ⟨p, by rw [← st.len]; simp, rfl⟩
    | _ => exact h.elim
end
theorem e_ty {x : Str} {n : String} {pos : Pos} (hg : Gl X x) (hm : X.mg x = none) (hv : bootBuiltins x = some (.type n)) (hn : x ≠ "__name__" := by decide) (hd : (x == ("__debug__" : Str)) = false := by decide) : PE X (.Name x pos) (rdE T W (cK (.ty n))) :=
  e_k (pe_bltn (v := .ty n) hg hm hv rfl hn hd) fun _ _ => rfl
theorem callR_or {fn : Value} {r r' : List V → Hp → VK → Prop} (h : CallR X fn r) (h' : CallR X fn r') : CallR X fn (fun xs H Q => r xs H Q ∨ r' xs H Q) := fun pins s σ H xs us Q I rv q => q.elim (h pins s σ H xs us Q I rv) (h' pins s σ H xs us Q I rv)
theorem tyX_of {K : PySem.W.Frag} (hK : K = TheK.K) {I : List Addr} {B H : Hp} {S : Store} {v : V} {x : D} {a : String} (st : Sto L I B H S) (r : Rp I B v x) (e : tyOf S x = some a) : TyX K H v (.type a) := by
  unfold tyOf at e
  split at e
  · cases e; cases r; exact .base .non
  · cases e; cases r; exact .base (.bl _)
  · cases e; cases r; exact .base (.int _)
  · cases e; cases r; exact .base (.str _)
  · cases e; cases r; exact .byt _
  · cases e
    obtain ⟨b, vs, rfl, h, _⟩ := Rp.tup st r
    exact .base (.tup h)
  · cases e
    obtain ⟨b, vs, rfl, h, _⟩ := Rp.lst st r
    exact .base (.lst h)
  · cases e
    obtain ⟨b, rfl, h⟩ := r
    rcases h with h | ⟨o, _, _, h1, h2, _⟩
    · rcases st.rdL h with h | ⟨o, h⟩
      · exact .base (.lst h)
      · exact .base (.frz h)
    · subst hK
      exact .kList h1 h2
  · cases e
    obtain ⟨b, vs, rfl, h, _⟩ := r
    exact .base (.dK (st.sub _ _ h))
  · split at e
    · cases e
      rename_i q
      obtain ⟨b, o, rfl, _, h, vs, rfl, _⟩ := Rp.ptr st r q
      exact .base (.lst h)
    · cases e
      rename_i q
      obtain ⟨b, o, rfl, _, h, vs, rfl, _⟩ := Rp.ptr st r q
      exact .base (.dK h)
    · cases e
  · cases e
theorem kits_ok {K : PySem.W.Frag} {I : List Addr} {B : Hp} {a : String} : ∀ {ts : List D} {vs : List V} {b : Bool}, Rps I B vs ts → bIsi.kits a ts = some b → ∃ us, Paired ClsV vs us ∧ PySem.W.kitAny K (.type a) us = some b
  | [], [], b, _, e => by
    unfold bIsi.kits at e; cases e
    exact ⟨[], .nil, kitAny_nil⟩
  | .ty t :: ts, v :: vs, b, r, e => by
    unfold bIsi.kits at e
    have hv : v = .ty t := r.1
    subst hv
    cases q : L2.kitB a t with
    | none => rw [q] at e; cases e
    | some c =>
      cases q2 : bIsi.kits a ts with
      | none => rw [q, q2] at e; cases e
      | some d =>
        rw [q, q2] at e
        cases e
        obtain ⟨us, hu, hk⟩ := kits_ok r.2 q2
        refine ⟨_, .cons (.ty t) hu, kitAny_cons (kit_ty q) (fun z => by subst z; simpa using hk) fun z => by subst z; rfl⟩
  | [], _ :: _, _, r, _ => r.elim
  | _ :: _, [], _, r, _ => r.elim
  | .non :: _, _ :: _, _, _, e => by cases e
  | .bl _ :: _, _ :: _, _, _, e => by cases e
  | .int _ :: _, _ :: _, _, _, e => by cases e
  | .str _ :: _, _ :: _, _, _, e => by cases e
  | .byt _ :: _, _ :: _, _, _, e => by cases e
  | .tup _ :: _, _ :: _, _, _, e => by cases e
  | .lst _ :: _, _ :: _, _, _, e => by cases e
  | .scr _ :: _, _ :: _, _, _, e => by cases e
  | .dct _ _ :: _, _ :: _, _, _, e => by cases e
  | .obj _ _ _ :: _, _ :: _, _, _, e => by cases e
  | .ptr _ :: _, _ :: _, _, _, e => by cases e
  | .ref _ :: _, _ :: _, _, _, e => by cases e
theorem k_isi {K : PySem.W.Frag} (hK : K = TheK.K) : OkA L (fun xs H Q => rIsi K xs H Q ∨ rIsiT K xs H Q) bIsi := by
  intro W s I B H Q S vs xs st r f
  unfold bIsi at f
  split at f
  · rename_i x t
    obtain ⟨v, u, rfl, rv, ru⟩ := r.two
    cases ru
    cases q : tyOf S x with
    | none => rw [q] at f; exact f.elim
    | some a =>
      rw [q] at f
      simp only [Option.bind] at f
      cases q2 : L2.kitB a t with
      | none => rw [q2] at f; exact f.elim
      | some b =>
        rw [q2] at f
        exact .inl ⟨v, .ty t, _, _, b, rfl, .ty t, tyX_of hK st rv q, kit_ty q2, f.here st rfl⟩
  · rename_i x ts
    obtain ⟨v, u, rfl, rv, ru⟩ := r.two
    obtain ⟨p, cs, rfl, hp, _, rc⟩ := Rp.tup st ru
    cases q : tyOf S x with
    | none => rw [q] at f; exact f.elim
    | some a =>
      rw [q] at f
      simp only at f
      cases q2 : bIsi.kits a ts with
      | none => rw [q2] at f; exact f.elim
      | some b =>
        rw [q2] at f
        obtain ⟨us, hu, hk⟩ := kits_ok rc q2
        exact .inr ⟨v, p, cs, _, us, b, rfl, hp, hu, tyX_of hK st rv q, hk, f.here st rfl⟩
  · exact f.elim
end CL
set_option Elab.async false
set_option linter.all false
set_option maxRecDepth 100000
namespace CL
open PySem PySem.Spec PyProof.Rows L2
variable [TheK]
theorem bt_len : bootBuiltins "len" = some (.builtin "len") := by decide +kernel
theorem bt_isinstance : bootBuiltins "isinstance" = some (.builtin "isinstance") := by decide +kernel
theorem bt_int : bootBuiltins "int" = some (.type "int") := by decide +kernel
theorem bt_list : bootBuiltins "list" = some (.type "list") := by decide +kernel
theorem bt_tuple : bootBuiltins "tuple" = some (.type "tuple") := by decide +kernel
theorem bt_bytes : bootBuiltins "bytes" = some (.type "bytes") := by decide +kernel
section
variable {L : Tl} {T : Pm} {X : Cx} {W : WX}
theorem FnC.no {P : Program} {w : World} {K : PySem.W.Frag} {mg : Str → Option Value} {base : Heap} {k : Nat} {f : Addr} {fd : FuncData} {ps : List Str} : FnC P w K mg base L k f fd ps (fun _ _ => .bad) :=
  ⟨fun vs H Q E ⟨_, _, _, _, hl, _⟩ => hl, fun A outer s H args us vs Q E _ _ _ _ ⟨_, _, _, _, _, _, _, f⟩ => f.elim⟩
theorem i_seq {tg e : Expr} {ce : CE} (he : PE X e (rdE T W ce)) (hK : X.K = TheK.K := by rfl) : PI X tg e (rdI T W (CL.iSeq ce)) := by
  refine ⟨fun pins s σ H R I h => ?_⟩
  obtain ⟨H0, J, B, z, S, a, f⟩ := h
  unfold CL.iSeq at f
  cases q : ce z S with
  | bad => rw [q] at f; exact f.elim
  | exc x S' => exact (i_tup he).run pins s σ H R I ⟨H0, J, B, z, S, a, by unfold iSeqT; rw [q] at f ⊢; exact f⟩
  | ok d S' =>
    rw [q] at f
    cases d with
    | tup xs => exact (i_tup he).run pins s σ H R I ⟨H0, J, B, z, S, a, by unfold iSeqT; rw [q]; exact f⟩
    | lst xs => exact (i_lst he hK).run pins s σ H R I ⟨H0, J, B, z, S, a, by unfold iSeqL; rw [q]; exact f⟩
    | scr ns => exact (i_lst he hK).run pins s σ H R I ⟨H0, J, B, z, S, a, by unfold iSeqL; rw [q]; exact f⟩
    | _ => exact f.elim
end
end CL
namespace CL
open PySem PySem.Spec PyProof.Rows L2
variable [TheK]
section
variable {P : Program} {w : World} {K : PySem.W.Frag} {mg : Str → Option Value} {base : Heap} {x qual : Str} {st : Stmt} {f co : Addr} {fd : FuncData} {N ps : List Str} {k : Nat} {c : CS} {L : Tl}
/-- as fn_c, the def's code object known -/
theorem fn_cc (F : Fun K x qual st f fd) (S : FnScope N ps (defScope st)) (hcd : fd.code = .ref co)
    (hb : ∀ (A : Around) (outer : List Env) (s : Shared) (H : Hp) (E : XK) (I0 : List Addr) (B0 : Hp), Room k (A.deeper (envOfC qual (defScope st) s.heap.objs.size f (.ref co))) →
      PSs (cxOf (L2.CX P w) P w K mg base N qual (defScope st) f (.ref co) A outer s H E) (defBody st) (rdS ⟨L, none, none⟩ I0 B0 H (kW E) c)) :
    FnC P w K mg base L (k + 1) f fd ps (run N.length c) := by
  obtain ⟨oc, od, kV, doc, pm, an, cdv, ct, osl, rfl, lk, hcg⟩ := F.ex
  have e : cdv = .ref co := hcd
  subst e
  refine fn_of lk hcg S (fun vs H Q E h => ?_) (fun A outer s H vs Q E hr h => ?_)
  · obtain ⟨I, B, S, ds, hl, _⟩ := h
    exact hl
  · obtain ⟨I, B, S, ds, hl, r, st', f⟩ := h
    refine ⟨_, hb A outer s H E I B hr, I, B, _, S, Gr.refl I B H, start_at N st' r, ?_⟩
    unfold run at f
    cases q : c (ds.map SV.d ++ List.replicate (N.length - ds.length) SV.u) S with
    | nx z' S' => rw [q] at f; exact fun J B' H' s' g gb a => f J B' H' .non g a.st rfl
    | rt d S' => rw [q] at f; exact fun J B' H' v g gb st r => f J B' H' v g st r
    | exc x z' S' => rw [q] at f; exact fun J B' H' s' cc dd g gb a r => f J B' H' cc dd g a.st r
    | bk z' S' => rw [q] at f; exact f.elim
    | ct z' S' => rw [q] at f; exact f.elim
    | bad => rw [q] at f; exact f.elim
end
end CL
namespace CL
open PySem PySem.Spec PyProof.Rows L2
variable [TheK]
section
variable {P : Program} {w : World} {K : PySem.W.Frag} {mg : Str → Option Value} {base : Heap} {x qual : Str} {st : Stmt} {f co : Addr} {fd : FuncData} {N ps : List Str} {k : Nat} {c : CS} {L : Tl} {bd : List Stmt} {sc : Scope}
/-- as fn_c, the body and the scope written out -/
theorem fn_d (F : Fun K x qual st f fd) (hbd : defBody st = bd) (hsc : defScope st = sc) (S : FnScope N ps sc)
    (hb : ∀ (cdv : Value) (A : Around) (outer : List Env) (s : Shared) (H : Hp) (E : XK) (I0 : List Addr) (B0 : Hp), Room k (A.deeper (envOfC qual sc s.heap.objs.size f cdv)) →
      PSs (cxOf (L2.CX P w) P w K mg base N qual sc f cdv A outer s H E) bd (rdS ⟨L, none, none⟩ I0 B0 H (kW E) c)) :
    FnC P w K mg base L (k + 1) f fd ps (run N.length c) := by
  subst hbd hsc
  exact fn_c F S hb
theorem fn_dd (F : Fun K x qual st f fd) (hbd : defBody st = bd) (hsc : defScope st = sc) (S : FnScope N ps sc) (hcd : fd.code = .ref co)
    (hb : ∀ (A : Around) (outer : List Env) (s : Shared) (H : Hp) (E : XK) (I0 : List Addr) (B0 : Hp), Room k (A.deeper (envOfC qual sc s.heap.objs.size f (.ref co))) →
      PSs (cxOf (L2.CX P w) P w K mg base N qual sc f (.ref co) A outer s H E) bd (rdS ⟨L, none, none⟩ I0 B0 H (kW E) c)) :
    FnC P w K mg base L (k + 1) f fd ps (run N.length c) := by
  subst hbd hsc
  exact fn_cc F S hcd hb
end
end CL
namespace CL
end CL
namespace CL
theorem iRange1_nat {c : CE} {z : Sl} {S S' : Store} {n : Nat} (h : c z S = .ok (.int n) S') (hn : n ≤ 1000) : CL.iRange1 c z S = .ok ((List.range' 0 n).map fun (k : Nat) => D.int (k : Int)) S' := by
  have hb : in62 (n : Int) = true := in62_of (Nat.lt_of_le_of_lt (by simpa using hn) (by decide +kernel : 1000 < 2 ^ 62))
  unfold CL.iRange1
  rw [h]
  simp only [CL.R.bind, hb, if_true, List.range_eq_range']
  simp
end CL
set_option Elab.async false
set_option linter.all false
set_option maxRecDepth 100000
namespace CL
open PySem PySem.Spec PyProof.Rows L2
variable [TheK]
section
variable {K : PySem.W.Frag} {C D : Addr} {b : Bool}
theorem kitC (hd : PySem.W.hasDictIn K D = true) (ht : PySem.W.typeIn K (.ref D) = some (.type "type")) (h : PySem.W.subIn K (.ref C) (.ref D) = some b) : PySem.W.kitCls K (.ref C) (.ref D) = some b := by
  obtain ⟨cd, hc, _⟩ := PySem.W.any_some hd
  show (if ((PySem.W.clsIn K D).isSome && PySem.W.typeIn K (.ref D) == some (.type "type")) = true then PySem.W.subIn K (.ref C) (.ref D) else none) = some b
  rw [hc, ht]
  exact h
theorem kit_type {T : String} (hm : PySem.W.kitMeta T = true) (h : PySem.W.subIn K (.ref C) (.type T) = some b) : PySem.W.kitOne K (.ref C) (.type T) = some b := by
  unfold PySem.W.kitOne
  rw [if_neg (by simp)]
  show (if PySem.W.kitMeta T = true then PySem.W.subIn K (.ref C) (.type T) else none) = some b
  rw [if_pos hm]
  exact h
theorem exm_own (hx : PySem.W.subIn K (.ref D) (.type "BaseException") = some true) (hd : PySem.W.hasDictIn K D = true) (ht : PySem.W.typeIn K (.ref D) = some (.type "type")) (h : PySem.W.subIn K (.ref C) (.ref D) = some b) : PySem.W.exmOne K (.ref C) (.ref D) = some b := by
  unfold PySem.W.exmOne
  rw [if_pos (by rw [hx]; rfl)]
  exact kitC hd ht h
end
end CL
set_option Elab.async false
set_option linter.all false
set_option maxRecDepth 100000
set_option maxHeartbeats 2000000
namespace CL
open PySem PySem.Spec PyProof.Rows L2
variable [TheK]
variable {L : Tl} {T : Pm} {X : Cx} {W : WX}
/-- z.m(y), z a text -/
def cSm (f : Str → D → Store → R D) (a b : CE) : CE := fun s S => (a s S).bind fun x S1 => match x with
  | .str z => (b s S1).bind fun y S2 => f z y S2
  | _ => .bad
/-- a text walked -/
def iStrC (c : CE) : CA := fun z S => (c z S).bind fun d S' => match d with
  | .str t => .ok (t.cps.toList.map fun c => D.str ⟨#[c]⟩) S'
  | _ => .bad
theorem Wk.str {t : Str} {I : List Addr} {B : Hp} : Wk L (Its t) I B (t.cps.toList.map fun c => D.str ⟨#[c]⟩) := by
  have hsz : t.cps.toList.length = t.cps.size := by simp
  refine ⟨fun i g st h => (walk_str (z := t)).goes i _ (by simpa using h) trivial, fun g st => ?_, fun {I' B' H S} i {x H' d} g st y e => ?_⟩
  · simp only [List.length_map, hsz]
    exact (walk_str (z := t)).stops _ trivial
  · have hi : i < t.cps.size := by simpa using (List.getElem?_eq_some_iff.mp e).1
    obtain ⟨e1, c, e2, e3⟩ := (walk_str (z := t)).yields i _ _ _ hi trivial y
    subst e1 e3
    have e4 : d = .str ⟨#[c]⟩ := by
      rw [List.getElem?_map, Array.getElem?_toList, e2] at e
      cases e; rfl
    subst e4
    exact ⟨I', B', Gr.refl _ _ _, st, rfl⟩
end CL
set_option Elab.async false
set_option linter.all false
set_option maxRecDepth 100000
set_option maxHeartbeats 2000000
namespace CL
open PySem PySem.Spec PyProof.Rows L2
variable [TheK]
variable {L : Tl} {T : Pm} {X : Cx} {W : WX}
section
variable {k : Nat} {f C : Addr} {fd : FuncData} {ps : List Str} {g : G} {x m : Str} {p pos apos : Pos} {e o : Expr} {es : List Expr} {co ce : CE} {ca : CA} {E : XK}
/-- C.m(e, ..), a classmethod -/
def cCmeth (C : Addr) (g : G) (o : CE) (ca : CA) : CE := fun z S => (o z S).bind fun d S1 => match d with
  | .ref c => if c = C then (ca z S1).bind fun xs S2 => g (.ref C :: xs) S2 else .bad
  | _ => .bad
end
/-- x, *y = a list -/
def sStar (i j : Nat) (c : CE) : CS := fun z S => oDo (c z S) z fun d S' => match d with
  | .lst (x :: xs) => .nx ((z.set i (.d x)).set j (.d (.lst xs))) S'
  | _ => .bad
end CL
set_option Elab.async false
set_option linter.all false
set_option maxRecDepth 100000
set_option maxHeartbeats 2000000
namespace CL
open PySem
section
variable {a b c : CE} {t u : CT} {ca : CA} {z : Sl} {S : Store} {i j n : Nat} {x y d : D} {xs ds : List D} {sa sb : CS} {g : Tg} {gs : Tgs}
@[simp] theorem ev_var : cVar i z S = slotD z[i]? S := rfl
@[simp] theorem ev_slot : slotD (some (.d x)) S = .ok x S := rfl
@[simp] theorem ev_k : cK x z S = .ok x S := rfl
@[simp] theorem ev_c1 {f : D → Store → R D} : c1 f a z S = (a z S).bind f := rfl
@[simp] theorem ev_c2 {f : D → D → Store → R D} : c2 f a b z S = (a z S).bind fun x S1 => (b z S1).bind fun y S2 => f x y S2 := rfl
@[simp] theorem ev_nil : aNil z S = .ok [] S := rfl
@[simp] theorem ev_cons : aCons a ca z S = (a z S).bind fun x S1 => (ca z S1).bind fun xs S2 => .ok (x :: xs) S2 := rfl
@[simp] theorem ev_app {f : List D → Store → R D} : cApp f ca z S = (ca z S).bind f := rfl
@[simp] theorem ev_call {g : G} : cCall g ca z S = (ca z S).bind g := rfl
@[simp] theorem ev_tup : cTup ca z S = (ca z S).bind fun xs S1 => if xs.length ≤ 16777216 then .ok (.tup xs) S1 else .bad := rfl
@[simp] theorem ev_lst : cLst ca z S = (ca z S).bind fun xs S1 => if xs.length ≤ 16777216 then .ok (.lst xs) S1 else .bad := rfl
@[simp] theorem ev_tB : tB a z S = (a z S).bind fun x S1 => match x with | .bl b => .ok b S1 | _ => .bad := rfl
@[simp] theorem ev_tNot : tNot t z S = (t z S).bind fun b S1 => .ok (!b) S1 := rfl
@[simp] theorem ev_tAnd : tAnd t u z S = (t z S).bind fun x S1 => if x then u z S1 else .ok false S1 := rfl
@[simp] theorem ev_tOr : tOr t u z S = (t z S).bind fun x S1 => if x then .ok true S1 else u z S1 := rfl
@[simp] theorem ev_if : cIf t a b z S = (t z S).bind fun x S1 => if x then a z S1 else b z S1 := rfl
@[simp] theorem ev_and : cAnd a b z S = (a z S).bind fun x S1 => match x with | .bl c => if c then b z S1 else .ok (.bl false) S1 | _ => .bad := rfl
@[simp] theorem ev_or : cOr a b z S = (a z S).bind fun x S1 => match x with | .bl c => if c then .ok (.bl true) S1 else b z S1 | _ => .bad := rfl
@[simp] theorem ev_not : cNot a z S = (a z S).bind fun x S1 => match x with | .bl c => .ok (.bl (!c)) S1 | _ => .bad := rfl
@[simp] theorem ev_chain {f h : D → D → Store → R D} : cChain f h a b c z S = (a z S).bind fun x S1 => (b z S1).bind fun y S2 => (f x y S2).bind fun w S3 => match w with | .bl k => if k then (c z S3).bind fun w S4 => h y w S4 else .ok (.bl false) S3 | _ => .bad := rfl
@[simp] theorem ev_cut {lo hi : CO} : cCut a lo hi z S = (a z S).bind fun x S1 => (lo z S1).bind fun l S2 => (hi z S2).bind fun h S3 => oCut x l h S3 := rfl
@[simp] theorem ev_none : oNone z S = .ok none S := rfl
@[simp] theorem ev_some : oSome a z S = (a z S).bind fun x S1 => match x with | .int i => .ok (some i) S1 | _ => .bad := rfl
@[simp] theorem ev_sm {f : Str → D → Store → R D} : cSm f a b z S = (a z S).bind fun x S1 => match x with | .str w => (b z S1).bind fun y S2 => f w y S2 | _ => .bad := rfl
@[simp] theorem ev_toP : cToP a z S = (a z S).bind fun d S' => match d with | .lst xs => .ok (.ptr S'.length) (S' ++ [.lst xs]) | _ => .bad := rfl
@[simp] theorem ev_appendP : cAppendP a b z S = (a z S).bind fun p S1 => match p with
  | .ptr j => match S1[j]? with
    | some (.lst _) => (b z S1).bind fun d S2 => match S2[j]? with
      | some (.lst xs) => if xs.length < 16777216 then .ok .non (S2.set j (.lst (xs ++ [d]))) else .bad
      | _ => .bad
    | _ => .bad
  | _ => .bad := rfl
@[simp] theorem ev_make {C : Addr} {g : G} : cMake C g ca z S = (ca z S).bind fun xs S1 => (g (.ptr S1.length :: xs) (S1 ++ [.ins C [] []])).bind fun r S2 => match r with
  | .non => .ok (.ptr S1.length) S2
  | _ => .bad := rfl
@[simp] theorem ev_val {C : Addr} {v : D} : cVal C v a z S = (a z S).bind fun d S1 => match d with | .ref b => if b = C then .ok v S1 else .bad | _ => .bad := rfl
@[simp] theorem ev_stat {C : Addr} {g : G} : cStat C g a ca z S = (a z S).bind fun d S1 => match d with | .ref b => if b = C then (ca z S1).bind g else .bad | _ => .bad := rfl
@[simp] theorem ev_cmeth {C : Addr} {g : G} : cCmeth C g a ca z S = (a z S).bind fun d S1 => match d with | .ref c => if c = C then (ca z S1).bind fun xs S2 => g (.ref C :: xs) S2 else .bad | _ => .bad := rfl
@[simp] theorem ev_prop {C : Addr} {g : G} : cProp C g a z S = (a z S).bind fun x S1 => match classOf S1 x with | some (C', _) => if C' = C then g [x] S1 else .bad | none => .bad := rfl
@[simp] theorem ev_nox {g : G} : gNox g ds S = match g ds S with | .ok d S' => .ok d S' | _ => .bad := rfl
@[simp] theorem ev_fld {C : Addr} {f : Str} : cFld C f a z S = (a z S).bind fun x S1 => match classOf S1 x, fieldOf S1 x f with
  | some (C', _), some v => if C' = C then .ok v S1 else .bad
  | _, _ => .bad := rfl
@[simp] theorem ev_meth {C : Addr} {m : Str} {g : G} : cMeth C m g a ca z S = (a z S).bind fun x S1 => match classOf S1 x with
  | some (C', ns) => if C' = C ∧ m ∉ ns then (ca z S1).bind fun xs S2 => g (x :: xs) S2 else .bad
  | none => .bad := rfl
@[simp] theorem ev_do {α : Type} {x : α} {f : α → Store → O} : oDo (.ok x S) z f = f x S := rfl
@[simp] theorem ev_doX {α : Type} {e : Exn} {f : α → Store → O} : oDo (.exc e S) z f = .exc e z S := rfl
@[simp] theorem ev_doB {α : Type} {f : α → Store → O} : oDo (.bad) z f = .bad := rfl
@[simp] theorem ev_sNil : sNil z S = .nx z S := rfl
@[simp] theorem ev_seq : sSeq sa sb z S = match sa z S with | .nx z' S' => sb z' S' | o => o := rfl
@[simp] theorem ev_set : sSet i a z S = oDo (a z S) z fun d S' => .nx (z.set i (.d d)) S' := rfl
@[simp] theorem ev_expr : sExpr a z S = oDo (a z S) z fun _ S' => .nx z S' := rfl
@[simp] theorem ev_ret : sRet a z S = oDo (a z S) z fun d S' => .rt d S' := rfl
@[simp] theorem ev_sif : sIf t sa sb z S = oDo (t z S) z fun c S' => if c then sa z S' else sb z S' := rfl
@[simp] theorem ev_asg : sAsg a g z S = oDo (a z S) z fun d S' => match g d z with | some z' => .nx z' S' | none => .bad := rfl
@[simp] theorem ev_par : sPar i j ca z S = oDo (ca z S) z fun ds S' => match ds with | [x, y] => .nx ((z.set i (.d x)).set j (.d y)) S' | _ => .bad := rfl
@[simp] theorem ev_setL : sSetL i a z S = oDo (a z S) z fun d S' => match d with | .lst xs => .nx (z.set i (.l xs)) S' | _ => .bad := rfl
@[simp] theorem ev_frz : sFrz i sa z S = match z[i]? with | some (.l xs) => sa (z.set i (.d (.lst xs))) S | _ => .bad := rfl
@[simp] theorem ev_append : sAppend i a z S = match z[i]? with
  | some (.l xs) => oDo (a z S) z fun d S' => if xs.length < 16777216 then .nx (z.set i (.l (xs ++ [d]))) S' else .bad
  | _ => .bad := rfl
@[simp] theorem ev_star : sStar i j a z S = oDo (a z S) z fun d S' => match d with | .lst (x :: xs) => .nx ((z.set i (.d x)).set j (.d (.lst xs))) S' | _ => .bad := rfl
@[simp] theorem ev_raiseK {C : Addr} {fs : List Str} : sRaiseK C fs ca z S = oDo (ca z S) z fun xs S' => if xs.length = fs.length then .exc ⟨C, fs.reverse, xs.reverse⟩ z S' else .bad := rfl
@[simp] theorem ev_raiseM {C : Addr} : sRaiseM C z S = .exc ⟨C, [], []⟩ z S := rfl
@[simp] theorem ev_for {it : CA} : sFor it g sa z S = oDo (it z S) z fun ds S' => loop g sa ds z S' := rfl
@[simp] theorem ev_field {C : Addr} {f : Str} : sField C f a b z S = oDo (b z S) z fun d S1 => oDo (a z S1) z fun p S2 => match p with
  | .ptr j => match S2[j]? with
    | some (.ins C' ns xs) => if C' = C ∧ ns.length < 1000 then .nx z (S2.set j (.ins C (putN f d ns xs).1 (putN f d ns xs).2)) else .bad
    | _ => .bad
  | _ => .bad := rfl
@[simp] theorem ev_item : sItem a b c z S = oDo (c z S) z fun d S1 => oDo (a z S1) z fun p S2 => oDo (b z S2) z fun i S3 => match p, i with
  | .ptr j, .int i => match S3[j]? with
    | some (.lst xs) => match L2.ixN xs.length i with
      | some n => .nx z (S3.set j (.lst (xs.set n d)))
      | none => .bad
    | _ => .bad
  | _, _ => .bad := rfl
@[simp] theorem ev_loop0 : loop g sa [] z S = .nx z S := rfl
@[simp] theorem ev_gN : gN i d z = some (z.set i (.d d)) := rfl
@[simp] theorem ev_gNil : gNil [] z = some z := rfl
@[simp] theorem ev_gCons : gCons g gs (d :: ds) z = (g d z).bind (gs ds) := rfl
@[simp] theorem ev_gTup : gTup n gs (.tup xs) z = if xs.length = n then gs xs z else none := rfl
@[simp] theorem ev_iSeq : iSeq a z S = (a z S).bind fun d S' => match d with | .tup xs => .ok xs S' | .lst xs => .ok xs S' | .scr ns => .ok (ns.map D.int) S' | _ => .bad := rfl
@[simp] theorem ev_iStr : iStrC a z S = (a z S).bind fun d S' => match d with | .str t => .ok (t.cps.toList.map fun c => D.str ⟨#[c]⟩) S' | _ => .bad := rfl
@[simp] theorem ev_iEnum : iEnum a z S = (a z S).bind fun d S' => match d with | .tup xs => .ok (enumD xs) S' | .lst xs => .ok (enumD xs) S' | _ => .bad := rfl
/-- a def's call, its body's way told -/
theorem run_rt {n : Nat} {b : CS} {ds : List D} {S S' : Store} {d : D} (h : b (ds.map SV.d ++ List.replicate (n - ds.length) SV.u) S = .rt d S') : run n b ds S = .ok d S' := by unfold run; rw [h]
theorem run_nx {n : Nat} {b : CS} {ds : List D} {S S' : Store} {z' : Sl} (h : b (ds.map SV.d ++ List.replicate (n - ds.length) SV.u) S = .nx z' S') : run n b ds S = .ok .non S' := by unfold run; rw [h]
theorem run_exc {n : Nat} {b : CS} {ds : List D} {S S' : Store} {z' : Sl} {e : Exn} (h : b (ds.map SV.d ++ List.replicate (n - ds.length) SV.u) S = .exc e z' S') : run n b ds S = .exc e S' := by unfold run; rw [h]
theorem seq_nx {z' : Sl} {S' : Store} (h : sa z S = .nx z' S') : sSeq sa sb z S = sb z' S' := by simp [h]
theorem seq_rt {S' : Store} (h : sa z S = .rt d S') : sSeq sa sb z S = .rt d S' := by simp [h]
theorem seq_exc {z' : Sl} {S' : Store} {e : Exn} (h : sa z S = .exc e z' S') : sSeq sa sb z S = .exc e z' S' := by simp [h]
theorem loop_cons {z1 z2 : Sl} {S2 : Store} (h1 : g d z = some z1) (h2 : sa z1 S = .nx z2 S2) : loop g sa (d :: ds) z S = loop g sa ds z2 S2 := by simp [loop, h1, h2]
theorem loop_exc {z1 z2 : Sl} {S2 : Store} {e : Exn} (h1 : g d z = some z1) (h2 : sa z1 S = .exc e z2 S2) : loop g sa (d :: ds) z S = .exc e z2 S2 := by simp [loop, h1, h2]
end
/-- as lc_map, items told by their place -/
theorem lc_eq {it : CA} {g : Tg} {t : CT} {e : CE} {vs : List Nat} {z : Sl} {S S1 S2 : Store} {ds xs : List D} (h1 : it z S = .ok ds S1) (h2 : lcGo g t e (wipeD z vs) ds S1 [] = .ok xs S2) : cLc it g t e vs z S = .ok (.lst xs) S2 := by
  unfold cLc; rw [h1]; simp [h2]
end CL
set_option Elab.async false
set_option linter.all false
set_option maxRecDepth 100000
set_option maxHeartbeats 2000000
namespace CL
open PySem PySem.Spec PyProof.Rows L2
variable [TheK]
variable {L : Tl} {T : Pm} {X : Cx} {W : WX}
/-- how a generator's block ends; ys: what was handed out so far -/
inductive OG where
  | nx (ys : List D) (z : Sl) (S : Store) | rt (ys : List D) (d : D) (S : Store) | bk (ys : List D) (z : Sl) (S : Store) | ct (ys : List D) (z : Sl) (S : Store) | exc (x : Exn) (z : Sl) (S : Store) | bad
abbrev CG := List D → Sl → Store → OG
def gPlain (c : CS) : CG := fun ys z S => match c z S with
  | .nx z' S' => .nx ys z' S'
  | .rt d S' => .rt ys d S'
  | .bk z' S' => .bk ys z' S'
  | .ct z' S' => .ct ys z' S'
  | .exc x z' S' => .exc x z' S'
  | .bad => .bad
def gSeq (a b : CG) : CG := fun ys z S => match a ys z S with
  | .nx ys' z' S' => b ys' z' S'
  | o => o
def gDone : CG := fun ys z S => .nx ys z S
def gYield (c : CE) : CG := fun ys z S => if ys.length < 16777216 then match c z S with
  | .ok d S' => .nx (ys ++ [d]) z S'
  | .exc x S' => .exc x z S'
  | .bad => .bad else .bad
def gLoop (t : CT) (b : CG) : Nat → CG
  | 0, _, _, _ => .bad
  | n + 1, ys, z, S => match t z S with
    | .ok true S1 => match b ys z S1 with
      | .nx ys2 z2 S2 => gLoop t b n ys2 z2 S2
      | .ct ys2 z2 S2 => gLoop t b n ys2 z2 S2
      | .bk ys2 z2 S2 => .nx ys2 z2 S2
      | o => o
    | .ok false S1 => .nx ys z S1
    | .exc x S1 => .exc x z S1
    | .bad => .bad
def gWhile (n : Nat) (t : CT) (b : CG) : CG := gLoop t b n
section
variable (T) (I0 : List Addr) (B0 H0 : Hp) (W : WX) (I : List Addr) (B : Hp)
def FinY (D : GEnds) : OG → Prop
  | .nx ys z S => ∀ J B' H s vs, Gr I0 B0 H0 J B' H → GB I B J B' → At T H0 J B' H s z S → Rps J B' vs ys → D.nx vs s H
  | .bk ys z S => ∀ J B' H s vs, Gr I0 B0 H0 J B' H → GB I B J B' → At T H0 J B' H s z S → Rps J B' vs ys → D.bk vs s H
  | .ct ys z S => ∀ J B' H s vs, Gr I0 B0 H0 J B' H → GB I B J B' → At T H0 J B' H s z S → Rps J B' vs ys → D.ct vs s H
  | .rt ys d S => ∀ J B' H vs v, Gr I0 B0 H0 J B' H → GB I B J B' → Sto T.tabs J B' H S → Rps J B' vs ys → Rp J B' v d → D.rt vs v H
  | .exc x z S => ∀ J B' H s c dd, Gr I0 B0 H0 J B' H → GB I B J B' → At T H0 J B' H s z S → RpX J B' c dd x → W c dd s H
  | .bad => False
end
section
variable (T) (I0 : List Addr) (B0 H0 : Hp) (W : WX)
def rdY (c : CG) : TGn := fun D vs s H => ∃ I B z S ys, Gr I0 B0 H0 I B H ∧ At T H0 I B H s z S ∧ Rps I B vs ys ∧ FinY T I0 B0 H0 W I B D (c ys z S)
end
theorem FinY.gb {I0 : List Addr} {B0 H0 : Hp} {I J : List Addr} {B B' : Hp} {En : GEnds} {o : OG} (h : FinY T I0 B0 H0 W I B En o) (g : GB I B J B') : FinY T I0 B0 H0 W J B' En o := by
  cases o with
  | nx ys z S => exact fun J2 B2 H s vs g0 g2 => h J2 B2 H s vs g0 (g.trans g2)
  | bk ys z S => exact fun J2 B2 H s vs g0 g2 => h J2 B2 H s vs g0 (g.trans g2)
  | ct ys z S => exact fun J2 B2 H s vs g0 g2 => h J2 B2 H s vs g0 (g.trans g2)
  | rt ys d S => exact fun J2 B2 H vs v g0 g2 => h J2 B2 H vs v g0 (g.trans g2)
  | exc x z S => exact fun J2 B2 H s c dd g0 g2 => h J2 B2 H s c dd g0 (g.trans g2)
  | bad => exact h
theorem gs_imp {st : Stmt} {t t' : TGn} (h : GS X st t) (k : ∀ D ys s H, t' D ys s H → t D ys s H) : GS X st t' :=
  ⟨fun A S ip R n ys s₀ c fs K J gd lv s σ H D g hn kk hI ht => h.run A S ip R n ys s₀ c fs K J gd lv s σ H D g hn kk hI (k _ _ _ _ ht)⟩
theorem gss_imp {st : List Stmt} {t t' : TGn} (h : GSs X st t) (k : ∀ D ys s H, t' D ys s H → t D ys s H) : GSs X st t' :=
  ⟨fun A S ip R n ys s₀ c fs K J gd lv s σ H D g hn kk hI ht => h.run A S ip R n ys s₀ c fs K J gd lv s σ H D g hn kk hI (k _ _ _ _ ht)⟩
section
variable {I0 : List Addr} {B0 H0 : Hp} {st : Stmt} {rest : List Stmt} {c c2 : CG} {cs : CS} {e : Expr} {ce : CE}
theorem plain_read {D : GEnds} {vs : List V} {s : L2.St} {H : Hp} (h : rdY T I0 B0 H0 W (gPlain cs) D vs s H) : rdS T I0 B0 H0 W cs (D.at vs) s H := by
  obtain ⟨I, B, z, S, ys, g, a, r, f⟩ := h
  refine ⟨I, B, z, S, g, a, ?_⟩
  unfold gPlain at f
  cases q : cs z S with
  | nx z' S' => rw [q] at f; exact fun J B' H s g0 gb a' => f J B' H s vs g0 gb a' (r.mono gb.sub gb.ext)
  | bk z' S' => rw [q] at f; exact fun J B' H s g0 gb a' => f J B' H s vs g0 gb a' (r.mono gb.sub gb.ext)
  | ct z' S' => rw [q] at f; exact fun J B' H s g0 gb a' => f J B' H s vs g0 gb a' (r.mono gb.sub gb.ext)
  | rt d S' => rw [q] at f; exact fun J B' H v g0 gb st rv => f J B' H vs v g0 gb st (r.mono gb.sub gb.ext) rv
  | exc x z' S' => rw [q] at f; exact f
  | bad => rw [q] at f; exact f
theorem y_plain (h : PS X st (rdS T I0 B0 H0 W cs)) : GS X st (rdY T I0 B0 H0 W (gPlain cs)) := gs_imp (gs_ps h) fun _ _ _ _ q => plain_read q
theorem y_nil : GSs X [] (rdY T I0 B0 H0 W gDone) := by
  refine gss_imp gss_nil ?_
  rintro D vs s H ⟨I, B, z, S, ys, g, a, r, f⟩
  exact f I B H s vs g GB.rfl a r
theorem y_cons (h1 : GS X st (rdY T I0 B0 H0 W c)) (h2 : GSs X rest (rdY T I0 B0 H0 W c2)) : GSs X (st :: rest) (rdY T I0 B0 H0 W (gSeq c c2)) := by
  refine gss_imp (gss_cons h1 h2) ?_
  rintro D vs s H ⟨I, B, z, S, ys, g, a, r, f⟩
  refine ⟨I, B, z, S, ys, g, a, r, ?_⟩
  unfold gSeq at f
  cases q : c ys z S with
  | nx ys' z' S' => rw [q] at f; exact fun J B' H s vs g0 gb a' r' => ⟨J, B', z', S', ys', g0, a', r', FinY.gb f gb⟩
  | bk ys' z' S' => rw [q] at f; exact f
  | ct ys' z' S' => rw [q] at f; exact f
  | rt ys' d S' => rw [q] at f; exact f
  | exc x z' S' => rw [q] at f; exact f
  | bad => rw [q] at f; exact f
theorem y_one (h1 : GS X st (rdY T I0 B0 H0 W c)) : GSs X [st] (rdY T I0 B0 H0 W (gSeq c gDone)) := y_cons h1 y_nil
theorem y_yield {yp pos : Pos} (he : PE X e (rdE T W ce)) (hco : X.env.scope.isCoroutine = false := by rfl) (hi : interactive X.env = false := by rfl) : GS X (.Expr (.Yield (some e) yp) pos) (rdY T I0 B0 H0 W (gYield ce)) := by
  refine gs_imp (gs_yield he hco hi) ?_
  rintro D vs s H ⟨I, B, z, S, ys, g, a, r, f⟩
  unfold gYield at f
  by_cases hl : ys.length < 16777216
  · rw [if_pos hl] at f
    refine ⟨by rw [r.len]; exact line_lt hl, H0, I, B, z, S, a, ?_⟩
    cases q : ce z S with
    | bad => rw [q] at f; exact f.elim
    | exc x S' =>
      rw [q] at f
      exact fun J B' H' c dd g1 st1 r1 => f J B' H' s c dd (g.trans g1) g1.gb (a.gr g1 st1) r1
    | ok d S' =>
      rw [q] at f
      exact fun J B' H' v g1 st1 r1 => f J B' H' s (vs ++ [v]) (g.trans g1) g1.gb (a.gr g1 st1) ((r.gr g1).append ⟨r1, trivial⟩)
  · rw [if_neg hl] at f; exact f.elim
theorem y_while {test : Expr} {body : List Stmt} {pos : Pos} {t : CT} (n : Nat) (hp : PassesOwn (model X.prog X.w) X.A X.env X.xe) (hc : PT X test (rdT T W t)) (hb : GSs X body (rdY T I0 B0 H0 W c)) : GS X (.While test body [] pos) (rdY T I0 B0 H0 W (gWhile n t c)) := by
  refine gs_imp (gs_while hp hc hb) ?_
  rintro D vs s H ⟨I, B, z, S, ys, g0, a, r, f⟩
  refine ⟨fun m vs s H => ∃ I B z S ys, Gr I0 B0 H0 I B H ∧ At T H0 I B H s z S ∧ Rps I B vs ys ∧ FinY T I0 B0 H0 W I B D (gLoop t c m ys z S), ⟨n, I, B, z, S, ys, g0, a, r, f⟩, ?_⟩
  rintro m vs s H ⟨I, B, z, S, ys, g0, a, r, f⟩
  cases m with
  | zero => exact f.elim
  | succ m =>
    rw [gLoop] at f
    refine ⟨H0, I, B, z, S, a, ?_⟩
    cases q : t z S with
    | bad => rw [q] at f; exact f.elim
    | exc x S' =>
      rw [q] at f
      exact fun J B' H' c dd g1 st1 r1 => f J B' H' s c dd (g0.trans g1) g1.gb (a.gr g1 st1) r1
    | ok k S1 =>
      rw [q] at f
      intro J B' H' v g1 st1 rv
      cases rv
      have f := FinY.gb f g1.gb
      have a1 := a.gr g1 st1
      have r1 := r.gr g1
      cases k with
      | false => exact f J B' H' s vs (g0.trans g1) GB.rfl a1 r1
      | true =>
        rw [if_pos rfl]
        refine ⟨fun vs s H => ∃ I B z S ys, Gr I0 B0 H0 I B H ∧ At T H0 I B H s z S ∧ Rps I B vs ys ∧ FinY T I0 B0 H0 W I B D (gLoop t c m ys z S), fun ys' s' H' p => ⟨m, Nat.lt_succ_self _, p⟩, J, B', z, S1, ys, g0.trans g1, a1, r1, ?_⟩
        dsimp only at f
        cases q2 : c ys z S1 with
        | nx ys2 z2 S2 =>
          rw [q2] at f
          exact fun J B' H s vs g3 gb3 a3 r3 => ⟨J, B', z2, S2, ys2, g3, a3, r3, FinY.gb f gb3⟩
        | ct ys2 z2 S2 =>
          rw [q2] at f
          exact fun J B' H s vs g3 gb3 a3 r3 => ⟨J, B', z2, S2, ys2, g3, a3, r3, FinY.gb f gb3⟩
        | bk ys2 z2 S2 => rw [q2] at f; exact f
        | rt ys2 d S2 => rw [q2] at f; exact f
        | exc x z2 S2 => rw [q2] at f; exact f
        | bad => rw [q2] at f; exact f
end
abbrev GG := List D → Store → R (List D)
def runG (n : Nat) (b : CG) : GG := fun ds S => match b [] (ds.map SV.d ++ List.replicate (n - ds.length) SV.u) S with
  | .nx ys _ S' => .ok ys S'
  | .rt ys .non S' => .ok ys S'
  | .exc x _ S' => .exc x S'
  | _ => .bad
def spY (L : Tl) (n : Nat) (g : GG) : SpG := fun vs H cont E => ∃ I B S ds, vs.length = n ∧ Rps I B vs ds ∧ Sto L I B H S ∧ Fin L Rps (kW E) [] I B H cont (g ds S)
abbrev GFnC (P : Program) (w : World) (K : PySem.W.Frag) (mg : Str → Option Value) (base : Heap) (L : Tl) (k : Nat) (f : Addr) (fd : FuncData) (ps : List Str) (g : GG) : Prop := GFn P w K mg base k f fd ps (spY L ps.length g)
section
variable {P : Program} {w : World} {K : PySem.W.Frag} {mg : Str → Option Value} {base : Heap} {x qual : Str} {st : Stmt} {f : Addr} {fd : FuncData} {N ps : List Str} {k : Nat} {c : CG}
theorem fn_y (F : Fun K x qual st f fd) (S : GScope N ps (defScope st))
    (hb : ∀ (cdv : Value) (A : Around) (outer : List Env) (s : Shared) (H : Hp) (E : XK) (I0 : List Addr) (B0 : Hp) (pn : List (Addr × Obj)), Room k (A.deeper (envOfC qual (defScope st) s.heap.objs.size f cdv)) →
      GSs (gcxOf P w K mg base N qual (defScope st) f cdv A outer s H E pn) (defBody st) (rdY ⟨L, none, none⟩ I0 B0 H (kW E) c)) :
    GFnC P w K mg base L (k + 1) f fd ps (runG N.length c) := by
  obtain ⟨oc, od, kV, doc, pm, an, cdv, ct, osl, rfl, lk, hcg⟩ := F.ex
  refine gfn_of lk hcg S (fun vs H Q E h => ?_) (fun A outer s H vs Q E pn hr h => ?_)
  · obtain ⟨I, B, S, ds, hl, _⟩ := h
    exact hl
  · obtain ⟨I, B, S, ds, hl, r, st', f⟩ := h
    refine ⟨_, hb cdv A outer s H E I B pn hr, I, B, _, S, [], Gr.refl I B H, start_at N st' r, trivial, ?_⟩
    unfold runG at f
    cases q : c [] (ds.map SV.d ++ List.replicate (N.length - ds.length) SV.u) S with
    | nx ys z' S' => rw [q] at f; exact fun J B' H' s' vs g gb a rv => f J B' H' vs g a.st rv
    | rt ys d S' =>
      rw [q] at f
      cases d with
      | non => exact fun J B' H' vs v g gb st rvs rv => ⟨rv, f J B' H' vs g st rvs⟩
      | _ => exact f.elim
    | exc x z' S' => rw [q] at f; exact fun J B' H' s' cc dd g gb a r => f J B' H' cc dd g a.st r
    | bk ys z' S' => rw [q] at f; exact f.elim
    | ct ys z' S' => rw [q] at f; exact f.elim
    | bad => rw [q] at f; exact f.elim
end
section
variable {k : Nat} {f C : Addr} {fd : FuncData} {ps : List Str} {g : GG} {x : Str} {p p2 pos pos2 : Pos} {e o : Expr} {es : List Expr} {ca : CA} {E : XK}
/-- list(f(e, ..)), f a generator def that lets nothing out -/
def cListG (g : GG) (ca : CA) : CE := fun z S => (ca z S).bind fun xs S1 => match g xs S1 with
  | .ok ys S2 => .ok (.lst ys) S2
  | _ => .bad
theorem e_listG (F : GFnC X.prog X.w X.K X.mg X.base T.tabs k f fd ps g) (hr : Room (k + 3) X.A) (hg : Gl X x) (hm : X.mg x = some (.ref f)) (hk : PySem.W.keepIn X.K (.ref f) = true) (hb : L2.Binds X.K fd ps []) (ha : PA X (e :: es) (rdA T W ca)) (hn : AN ca ps.length)
    (hgl : Gl X "list") (hml : X.mg "list" = none) (hdb : (x == ("__debug__" : Str)) = false := by decide) (he : starEach (e :: es) X.env = (false, eval e X.env) :: starEach es X.env := by rfl) (hpl : (backTo pos2 (starEach es X.env)).any (·.1) = false := by rfl)
    (he2 : starEach [.Call (.Name x p2) (e :: es) [] pos2] X.env = (false, eval (.Call (.Name x p2) (e :: es) [] pos2) X.env) :: starEach [] X.env := by rfl) :
    PE X (.Call (.Name "list" p) [.Call (.Name x p2) (e :: es) [] pos2] [] pos) (rdE T W (cListG g ca)) := by
  refine pe_imp (pe_listG (pgen_call (E := C8.E0) F (hr.mono (by omega)) hg hm hk hb .nil ha hdb he hpl) passL (fun _ _ _ z => z.elim) hr hgl hml (by decide +kernel) (by decide) (by decide) he2) ?_
  rintro s H Q ⟨H0, I, B, z, S, a, h⟩
  have hn' := hn z S
  unfold cListG at h
  refine ⟨H0, I, B, z, S, a, ?_⟩
  cases q : ca z S with
  | bad => rw [q] at h; exact h.elim
  | exc y S' => rw [q] at h; exact h
  | ok xs S' =>
    rw [q] at h
    intro J B' H' v g1 st1 r1
    have a1 := a.gr g1 st1
    have f1 : Fin T.tabs Rp W s J B' H' Q (match g xs S' with | .ok ys S2 => .ok (.lst ys) S2 | _ => .bad) := Fin.gr h g1
    clear h
    refine ⟨J, B', S', xs, ?_, by rw [List.append_nil]; exact r1, a1.st, ?_⟩
    · rw [List.append_nil, r1.len]; exact hn' xs S' q
    · cases q : g xs S' with
      | bad => rw [q] at f1; exact f1.elim
      | exc y S2 => rw [q] at f1; exact f1.elim
      | ok ys S2 =>
        rw [q] at f1
        exact fun J2 B2 H2 vs g2 st2 r2 p hp => (Fin.gr f1 g2).newL st2 r2 hp
end
end CL
set_option Elab.async false
set_option linter.all false
set_option maxRecDepth 100000
set_option maxHeartbeats 2000000
namespace CL
open PySem PySem.Spec PyProof.Rows L2
def dKey : D → Option Key
  | .int i => some (.inl i)
  | .str x => some (.inr x)
  | _ => none
instance decMemKey (k : Key) (ks : List Key) : Decidable (k ∈ ks) := decidable_of_iff ((ks.any fun k' => decide (k' = k)) = true) (by
  rw [List.any_eq_true]
  exact ⟨fun ⟨x, h, e⟩ => by rw [← of_decide_eq_true e]; exact h, fun h => ⟨k, h, decide_eq_true rfl⟩⟩)
section
variable {α : Type}
def dGet : List Key → List α → Key → Option α
  | k' :: ks, x :: xs, k => if k' = k then some x else dGet ks xs k
  | _, _, _ => none
def dSet : List Key → List α → Key → α → List α
  | k' :: ks, x :: xs, k, y => (if k' = k then y else x) :: dSet ks xs k y
  | _, _, _, _ => []
def dPut (ks : List Key) (xs : List α) (k : Key) (y : α) : List Key × List α := if k ∈ ks then (ks, dSet ks xs k y) else (ks ++ [k], xs ++ [y])
def dDropK (ks : List Key) (k : Key) : List Key := ks.filter fun k' => decide (k' ≠ k)
def dDrop : List Key → List α → Key → List α
  | k' :: ks, x :: xs, k => if k' = k then dDrop ks xs k else x :: dDrop ks xs k
  | _, _, _ => []
def dMerge (ks : List Key) (xs : List α) : List (Key × α) → List Key × List α
  | [] => (ks, xs)
  | p :: ps => dMerge (dPut ks xs p.1 p.2).1 (dPut ks xs p.1 p.2).2 ps
end
section
theorem val_get : ∀ {ks : List Key} {vs : List V} {k : Key}, ks.length = vs.length → valV (ks.zip vs) k = dGet ks vs k
  | [], [], _, _ => rfl
  | k' :: ks, v :: vs, k, h => by
    have ih := val_get (ks := ks) (vs := vs) (k := k) (by simpa using h)
    rw [List.zip_cons_cons, dGet]
    by_cases e : k' = k
    · rw [if_pos e, valV_pos e]
    · rw [if_neg e, valV_neg e, ih]
  | [], _ :: _, _, h => by cases h
  | _ :: _, [], _, h => by cases h
theorem dSet_len {α : Type} {k : Key} {y : α} : ∀ {ks : List Key} {xs : List α}, ks.length = xs.length → (dSet ks xs k y).length = ks.length
  | [], [], _ => rfl
  | k' :: ks, x :: xs, h => by rw [dSet, List.length_cons, dSet_len (by simpa using h), List.length_cons]
  | [], _ :: _, h => by cases h
  | _ :: _, [], h => by cases h
theorem set_zip {k : Key} {v : V} : ∀ {ks : List Key} {vs : List V}, ks.length = vs.length → ((ks.zip vs).map fun kv => if kv.1 = k then (kv.1, v) else kv) = ks.zip (dSet ks vs k v)
  | [], [], _ => rfl
  | k' :: ks, x :: vs, h => by
    have ih := set_zip (k := k) (v := v) (ks := ks) (vs := vs) (by simpa using h)
    rw [List.zip_cons_cons, List.map_cons, ih, dSet, List.zip_cons_cons]
    by_cases e : k' = k
    · rw [if_pos e, if_pos e]
    · rw [if_neg e, if_neg e]
  | [], _ :: _, h => by cases h
  | _ :: _, [], h => by cases h
theorem any_zip {k : Key} : ∀ {ks : List Key} {vs : List V}, ks.length = vs.length → ((ks.zip vs).any fun kv => decide (kv.1 = k)) = decide (k ∈ ks)
  | [], [], _ => rfl
  | k' :: ks, x :: vs, h => by
    have ih := any_zip (k := k) (ks := ks) (vs := vs) (by simpa using h)
    rw [List.zip_cons_cons, List.any_cons, ih, Bool.eq_iff_iff]
    simp only [List.mem_cons, Bool.or_eq_true, decide_eq_true_eq]
    constructor
    · rintro (e | e)
      · exact .inl e.symm
      · exact .inr e
    · rintro (e | e)
      · exact .inl e.symm
      · exact .inr e
  | [], _ :: _, h => by cases h
  | _ :: _, [], h => by cases h
theorem put_zip {ks : List Key} {vs : List V} {k : Key} {v : V} (h : ks.length = vs.length) : putK (ks.zip vs) k v = (dPut ks vs k v).1.zip (dPut ks vs k v).2 ∧ (dPut ks vs k v).1.length = (dPut ks vs k v).2.length := by
  unfold putK dPut
  rw [any_zip h]
  by_cases e : k ∈ ks
  · rw [if_pos (decide_eq_true e), if_pos e]
    exact ⟨set_zip h, (dSet_len h).symm⟩
  · rw [if_neg (by rw [decide_eq_false e]; decide), if_neg e]
    exact ⟨by rw [List.zip_append h]; rfl, by simp [h]⟩
variable [TheK]
variable {I : List Addr} {B : Hp}
theorem Rps.dGet {k : Key} {d : D} : ∀ {ks : List Key} {vs : List V} {xs : List D}, Rps I B vs xs → CL.dGet ks xs k = some d → ∃ v, CL.dGet ks vs k = some v ∧ Rp I B v d
  | [], vs, xs, r, e => by cases vs <;> cases xs <;> cases e
  | k' :: ks, v :: vs, x :: xs, r, e => by
    unfold CL.dGet at e ⊢
    by_cases q : k' = k
    · rw [if_pos q] at e ⊢; cases e
      exact ⟨v, rfl, r.1⟩
    · rw [if_neg q] at e ⊢
      exact Rps.dGet r.2 e
  | k' :: ks, [], [], r, e => by cases e
  | k' :: ks, [], _ :: _, r, e => r.elim
  | k' :: ks, _ :: _, [], r, e => r.elim
theorem Rps.dSet {k : Key} {v : V} {d : D} (rv : Rp I B v d) : ∀ {ks : List Key} {vs : List V} {xs : List D}, Rps I B vs xs → Rps I B (CL.dSet ks vs k v) (CL.dSet ks xs k d)
  | [], vs, xs, r => by cases vs <;> cases xs <;> exact trivial
  | k' :: ks, u :: vs, x :: xs, r => by
    rw [CL.dSet, CL.dSet]
    refine ⟨?_, Rps.dSet rv r.2⟩
    by_cases q : k' = k
    · rw [if_pos q, if_pos q]; exact rv
    · rw [if_neg q, if_neg q]; exact r.1
  | k' :: ks, [], [], r => trivial
  | k' :: ks, [], _ :: _, r => r.elim
  | k' :: ks, _ :: _, [], r => r.elim
theorem Rps.dPut {k : Key} {v : V} {d : D} (rv : Rp I B v d) {ks : List Key} {vs : List V} {xs : List D} (r : Rps I B vs xs) : (CL.dPut ks vs k v).1 = (CL.dPut ks xs k d).1 ∧ Rps I B (CL.dPut ks vs k v).2 (CL.dPut ks xs k d).2 := by
  unfold CL.dPut
  by_cases q : k ∈ ks
  · rw [if_pos q, if_pos q]; exact ⟨rfl, r.dSet rv⟩
  · rw [if_neg q, if_neg q]; exact ⟨rfl, r.append ⟨rv, trivial⟩⟩
end
/-- the dict behind a datum -/
def dctAt (S : Store) : D → Option (List Key × List D)
  | .ptr i => match S[i]? with
    | some (.dct ks xs) => some (ks, xs)
    | some (.lk ks xs) => some (ks, xs)
    | _ => none
  | _ => none
def oDGet : D → D → Store → R D := fun x y S => match dctAt S x, dKey y with
  | some p, some k => match dGet p.1 p.2 k with
    | some d => .ok d S
    | none => .bad
  | _, _ => .bad
/-- d.get(k, e) -/
def cDGet2 (co ck ce : CE) : CE := fun z S => (co z S).bind fun x S1 => match dctAt S1 x with
  | some _ => (ck z S1).bind fun y S2 => (ce z S2).bind fun w S3 => match dctAt S3 x, dKey y with
    | some p, some k => .ok ((dGet p.1 p.2 k).getD w) S3
    | _, _ => .bad
  | none => .bad
/-- d.pop(k) -/
def cDPop (co ck : CE) : CE := fun z S => (co z S).bind fun x S1 => match dctAt S1 x with
  | some _ => (ck z S1).bind fun y S2 => match x, dKey y with
    | .ptr i, some k => match S2[i]? with
      | some (.dct ks xs) => match dGet ks xs k with
        | some d => .ok d (S2.set i (.dct (dDropK ks k) (dDrop ks xs k)))
        | none => .bad
      | _ => .bad
    | _, _ => .bad
  | none => .bad
/-- d[k] = v -/
def sDPut (co ck cv : CE) : CS := fun z S => oDo (cv z S) z fun v S1 => oDo (co z S1) z fun x S2 => oDo (ck z S2) z fun y S3 => match x, dKey y with
  | .ptr i, some k => match S3[i]? with
    | some (.dct ks xs) => if ks.length < 16777216 then .nx z (S3.set i (.dct (dPut ks xs k v).1 (dPut ks xs k v).2)) else .bad
    | _ => .bad
  | _, _ => .bad
/-- {} -/
def cDNew : CE := fun _ S => .ok (.ptr S.length) (S ++ [.dct [] []])
variable [TheK]
variable {L : Tl} {T : Pm} {X : Cx} {W : WX}
section
variable {I : List Addr} {B H : Hp} {S : Store} {v u : V} {x y : D}
theorem Rp.dct (st : Sto L I B H S) (r : Rp I B v x) {p : List Key × List D} (e : dctAt S x = some p) : ∃ a vs, v = .ref a ∧ Rd H a (.dK (p.1.zip vs)) ∧ p.1.length = vs.length ∧ Rps I B vs p.2 := by
  unfold dctAt at e
  split at e
  · split at e
    · rename_i q
      cases e
      obtain ⟨a, o, rfl, _, h, vs, rfl, hl, rv⟩ := Rp.ptr st r q
      exact ⟨a, vs, rfl, .inl h, hl, rv⟩
    · rename_i q
      cases e
      obtain ⟨a, o, rfl, _, h, od, vs, rfl, hl, rv, _⟩ := Rp.ptr st r q
      exact ⟨a, vs, rfl, .inr ⟨od, h⟩, hl, rv⟩
    · cases e
  · cases e
theorem Rp.key {k : Key} (r : Rp I B u y) (e : dKey y = some k) : u = kV k := by
  unfold dKey at e
  split at e
  · cases e; exact r
  · cases e; exact r
  · cases e
theorem k_dget : Ok2 L (fun x y H Q => ∃ a w, x = .ref a ∧ DGet H a y (some w) ∧ Q w H) oDGet := by
  intro W s I B H Q S v u x y st rx ry f
  unfold oDGet at f
  cases q : dctAt S x with
  | none => simp only [q] at f; exact f.elim
  | some p =>
    cases q2 : dKey y with
    | none => simp only [q, q2] at f; exact f.elim
    | some k =>
      simp only [q, q2] at f
      cases q3 : dGet p.1 p.2 k with
      | none => simp only [q3] at f; exact f.elim
      | some d =>
        simp only [q3] at f
        obtain ⟨a, vs, rfl, h, hl, rv⟩ := Rp.dct st rx q
        obtain ⟨w, e1, e2⟩ := rv.dGet q3
        exact ⟨a, w, rfl, .inl ⟨_, k, h, ry.key q2, by rw [val_get hl, e1]⟩, f.here st e2⟩
end
section
variable {a b o i e f value : Expr} {ca cb co ck ce cv : CE} {pos apos cpos : Pos}
theorem e_dget (hu : X.A.units + 1 < cLine) (ho : PE X o (rdE T W co)) (hi : PE X i (rdE T W ck)) (hs : NoSl i := by exact fun _ _ => rfl) : PE X (.Subscript o i pos) (rdE T W (c2 oDGet co ck)) :=
  pe_imp (pe_dget hu ho hi hs) fun _ _ _ h => two k_dget h
theorem s_dput {I0 : List Addr} {B0 H0 : Hp} {pos' : Pos} (hu : X.A.units + 1 < cLine) (ho : PE X o (rdE T W co)) (hi : PE X i (rdE T W ck)) (hv : PE X value (rdE T W cv)) (hs : swapsWith value (some (.Subscript o i pos')) pos.line X.env = pure false := by rfl) :
    PS X (.Assign [.Subscript o i pos'] value pos) (rdS T I0 B0 H0 W (sDPut co ck cv)) := by
  refine ps_imp (ps_dput hu ho hi hv hs) ?_
  rintro D s H ⟨I, B, z, S, g, a, f⟩
  unfold sDPut at f
  refine sdo (rep := Rp) g a f fun J B' H' S' v x g0 g1 a1 r1 f1 => ?_
  refine sdo (rep := Rp) g0 a1 f1 fun J2 B2 H2 S2 u y g02 g2 a2 r2 f2 => ?_
  refine sdo (rep := Rp) g02 a2 f2 fun J3 B3 H3 S3 w n g03 g3 a3 r3 f3 => ?_
  cases y with
  | ptr j =>
    cases q3 : dKey n with
    | none => simp only [q3] at f3; exact f3.elim
    | some k =>
      simp only [q3] at f3
      cases q : S3[j]? with
      | none => simp only [q] at f3; exact f3.elim
      | some m =>
        cases m with
        | dct ks xs =>
          simp only [q] at f3
          by_cases hlt : ks.length < 16777216
          · rw [if_pos hlt] at f3
            obtain ⟨b, o', rfl, hI, hb, vs, rfl, hl, rv⟩ := Rp.ptr a3.st (r2.gr g3) q
            obtain ⟨e1, e2⟩ := put_zip (k := k) (v := v) hl
            obtain ⟨e3, e4⟩ := rv.dPut (ks := ks) (k := k) ((r1.gr g2).gr g3)
            have a4 := a3.write (u := .dK (putK (ks.zip vs) k v)) (m := .dct (dPut ks xs k x).1 (dPut ks xs k x).2) hI hb (fun ps z => by cases z) (fun q z => by cases z) ⟨_, by rw [e1, e3], by rw [← e3]; exact e2, e4⟩
            refine ⟨b, _, rfl, .inl ⟨_, k, hb, r3.key q3, ?_, rfl⟩, f3 J3 B3 _ s (g03.trans (gr_write (List.mem_of_getElem? hI) (fun ps z => by cases z))) GB.rfl a4⟩
            have : (ks.zip vs).length = ks.length := by rw [List.length_zip]; omega
            rw [this]; exact line_lt hlt
          · rw [if_neg hlt] at f3; exact f3.elim
        | ins _ _ _ => simp only [q] at f3; exact f3.elim
        | lst _ => simp only [q] at f3; exact f3.elim
        | lk _ _ => simp only [q] at f3; exact f3.elim
        | fn _ => simp only [q] at f3; exact f3.elim
  | _ => exact f3.elim
end
end CL
set_option Elab.async false
set_option linter.all false
set_option maxRecDepth 100000
set_option maxHeartbeats 2000000
namespace CL
open PySem PySem.Spec PyProof.Rows L2
abbrev CP := C (List (D × D))
def pNil : CP := fun _ S => .ok [] S
def pCons (ck cv : CE) (r : CP) : CP := fun z S => (ck z S).bind fun k S1 => (cv z S1).bind fun v S2 => (r z S2).bind fun ps S3 => .ok ((k, v) :: ps) S3
def keysOf : List (D × D) → Option (List (Key × D))
  | [] => some []
  | p :: ps => match dKey p.1, keysOf ps with
    | some k, some r => some ((k, p.2) :: r)
    | _, _ => none
def cDisp (c : CP) : CE := fun z S => (c z S).bind fun ps S1 => match keysOf ps with
  | some kd => if kd.length ≤ 15 then .ok (.ptr S1.length) (S1 ++ [.dct (dMerge [] [] kd).1 (dMerge [] [] kd).2]) else .bad
  | none => .bad
variable [TheK]
variable {L : Tl} {T : Pm} {X : Cx} {W : WX}
abbrev RpPs : List Addr → Hp → List (V × V) → List (D × D) → Prop := fun I B ps ds => Rps I B (ps.map (·.1)) (ds.map (·.1)) ∧ Rps I B (ps.map (·.2)) (ds.map (·.2))
variable (T) (W) in
def RdP (trs : List (TE × TE)) (c : CP) : Prop := ∀ s H Q, rd T RpPs W c s H Q → tPairs trs s H Q
theorem rdP_nil : RdP T W [] pNil := by
  rintro s H Q ⟨H0, I, B, z, S, a, h⟩
  exact Fin.here (rep := RpPs) (v := ([] : List (V × V))) h a.st ⟨trivial, trivial⟩
theorem rdP_cons {ck cv : CE} {r : CP} {trs : List (TE × TE)} (h : RdP T W trs r) : RdP T W ((rdE T W ck, rdE T W cv) :: trs) (pCons ck cv r) := by
  rintro s H Q ⟨H0, I, B, z, S, a, f⟩
  refine bind (rep := Rp) (rep2 := RpPs) (Q := Q) a f fun J B' H' S' v x g a1 r1 f1 => ?_
  refine bind (rep := Rp) (rep2 := RpPs) (Q := Q) a1 f1 fun J2 B2 H2 S2 u y g2 a2 r2 f2 => h _ _ _ ?_
  refine bind (rep := RpPs) (rep2 := RpPs) (Q := Q) a2 f2 fun J3 B3 H3 S3 ps ds g3 a3 r3 f3 => ?_
  exact Fin.here (rep := RpPs) (v := (v, u) :: ps) f3 a3.st ⟨⟨(r1.gr g2).gr g3, r3.1⟩, ⟨r2.gr g3, r3.2⟩⟩
section
variable {I J : List Addr} {B H B' H' : Hp} {S : Store}
theorem keys_rps : ∀ {ps : List (V × V)} {ds : List (D × D)} {kd : List (Key × D)}, RpPs I B ps ds → keysOf ds = some kd → ∃ kv : List (Key × V), ps = kv.map (fun p => (kV p.1, p.2)) ∧ kv.map (·.1) = kd.map (·.1) ∧ Rps I B (kv.map (·.2)) (kd.map (·.2)) ∧ kv.length = kd.length
  | [], [], kd, r, e => by cases e; exact ⟨[], rfl, rfl, trivial, rfl⟩
  | p :: ps, d :: ds, kd, r, e => by
    unfold keysOf at e
    cases q : dKey d.1 with
    | none => rw [q] at e; cases e
    | some k =>
      cases q2 : keysOf ds with
      | none => rw [q, q2] at e; cases e
      | some rest =>
        rw [q, q2] at e; cases e
        obtain ⟨kv, e1, e2, e3, e4⟩ := keys_rps (ps := ps) ⟨r.1.2, r.2.2⟩ q2
        have : p.1 = kV k := r.1.1.key q
        refine ⟨(k, p.2) :: kv, by rw [e1, List.map_cons, ← this], by simp [e2], ⟨r.2.1, e3⟩, by simp [e4]⟩
  | [], _ :: _, _, r, _ => r.1.elim
  | _ :: _, [], _, r, _ => r.1.elim
theorem merge_zip : ∀ {more : List (Key × V)} {kd : List (Key × D)} {ks : List Key} {vs : List V} {xs : List D}, more.map (·.1) = kd.map (·.1) → Rps I B (more.map (·.2)) (kd.map (·.2)) → ks.length = vs.length → Rps I B vs xs →
    mergeK (ks.zip vs) more = (dMerge ks xs kd).1.zip (dMerge ks vs more).2 ∧ (dMerge ks xs kd).1.length = (dMerge ks vs more).2.length ∧ Rps I B (dMerge ks vs more).2 (dMerge ks xs kd).2
  | [], [], ks, vs, xs, _, _, hl, r => ⟨rfl, hl, r⟩
  | p :: more, q :: kd, ks, vs, xs, e, rr, hl, r => by
    have e1 : p.1 = q.1 := (List.cons.inj e).1
    obtain ⟨z1, z2⟩ := put_zip (k := p.1) (v := p.2) hl
    obtain ⟨y1, y2⟩ := r.dPut (ks := ks) (k := p.1) rr.1
    rw [dMerge, dMerge]
    have : mergeK (ks.zip vs) (p :: more) = mergeK (putK (ks.zip vs) p.1 p.2) more := rfl
    rw [this, z1, ← e1, ← y1]
    exact merge_zip (List.cons.inj e).2 rr.2 z2 y2
  | [], _ :: _, _, _, _, e, _, _, _ => by cases e
  | _ :: _, [], _, _, _, e, _, _, _ => by cases e
theorem Sto.adopt {p : Addr} {o u : HO} {m : MO} (st : Sto L I B H S) (h : Hid p o I B H) (n1 : ∀ ps, o ≠ .tbl ps) (n2 : ∀ f, o ≠ .ext f) (r : RpM L (I ++ [p]) B H p u m) : Sto L (I ++ [p]) B (upd H p u) (S ++ [m]) := by
  have st' := st.hid (u := u) h n1 n2
  refine ⟨by simp [st.len], ?_, fun b hb => ?_, st'.sub, st.nt, fun i m' q => ?_, st'.tb⟩
  · rw [List.nodup_append]
    exact ⟨st.nd, by simp, fun b hb c hc => by
      have : c = p := by simpa using hc
      subst this
      intro e; subst e; exact h.ni hb⟩
  · rcases List.mem_append.mp hb with e | e
    · exact st.dj b e
    · have : b = p := by simpa using e
      subst this; exact fun o q => by rw [h.nb] at q; cases q
  · by_cases hi : i < S.length
    · rw [List.getElem?_append_left hi] at q
      obtain ⟨b, w, h1, h2, h3⟩ := st'.at_ i m' q
      exact ⟨b, w, by rw [List.getElem?_append_left (by rw [st.len]; exact hi)]; exact h1, h2, h3.mono ⟨[p], rfl⟩ fun _ _ h => h⟩
    · have hl := (List.getElem?_eq_some_iff.mp q).1
      have e : i = S.length := by simp at hl; omega
      subst e
      simp at q
      subst q
      exact ⟨p, u, by rw [← st.len]; simp, upd_same, r.cod (cod_upd h.at_ n2)⟩
theorem Gr.adopt {p : Addr} {u : HO} {I0 : List Addr} {B0 H0 : Hp} (g : Gr I0 B0 H0 I B H) (h0 : Fr H0 p) (nt : ∀ ps, u ≠ .tbl ps) : Gr I0 B0 H0 (I ++ [p]) B (upd H p u) := by
  obtain ⟨k, e, f⟩ := id g.pre
  refine ⟨⟨k ++ [p], by rw [e, List.append_assoc], fun a ha => ?_⟩, g.ext, g.new, fun b o h n t => ?_, fun b h => ?_⟩
  · rcases List.mem_append.mp ha with q | q
    · exact f a q
    · have : a = p := by simpa using q
      subst this; exact h0
  · have ne : b ≠ p := fun e => by subst e; exact h0.no h t
    rw [upd_ne ne]; exact g.keep b o h n t
  · by_cases e : b = p
    · exact e ▸ h0
    · exact g.dom b (h.down fun q => (e q).elim)
end
section
variable {pos : Pos} {c : CP}
theorem e_disp {keys : List (Option Expr)} {values : List Expr} {trs : List (TE × TE)} (hp : PPs X pos keys values trs) (hc : RdP T W trs c) (hall : keys.all (·.isSome) = true := by rfl) (hl : keys.length = values.length := by rfl) (h0 : keys ≠ [] := by exact fun z => nomatch z) (h15 : keys.length ≤ 15 := by decide) :
    PE X (.Dict keys values pos) (rdE T W (cDisp c)) := by
  refine pe_imp (pe_disp hp hall hl h0 h15) ?_
  rintro s H Q ⟨H0, I, B, z, S, a, h⟩ p hp
  have a0 := a.keep (keep_new (o := HO.dK []) hp)
  have hid : Hid p (.dK []) I B (upd H p (.dK [])) := ⟨upd_same, a.st.noB hp, a.st.notIn hp⟩
  have gk : Gr I B H I B (upd H p (.dK [])) := gr_own (Gr.refl _ _ _) (.of hp)
  refine hc _ _ _ ?_
  have h' : Fin T.tabs Rp W s I B (upd H p (.dK [])) (fun v H' => (∃ o, H' p = some o) → Q v H') (cDisp c z S) := by
    cases q : cDisp c z S with
    | bad => rw [q] at h; exact h
    | exc e S' => rw [q] at h; exact fun J B' H' cc dd g st r => h J B' H' cc dd (gk.trans g) st r
    | ok x S' => rw [q] at h; exact fun J B' H' v g st r _ => h J B' H' v (gk.trans g) st r
  unfold cDisp at h h'
  refine ⟨H0, I, B, z, S, a0, ?_⟩
  cases q : c z S with
  | bad => rw [q] at h; exact h.elim
  | exc e S' => rw [q] at h'; exact h'
  | ok ds S1 =>
    rw [q] at h
    simp only [R.bind] at h
    intro J B' H' ps g st r
    have hid' := hid.gr (fun ps z => by cases z) g
    cases q2 : keysOf ds with
    | none => rw [q2] at h; exact h.elim
    | some kd =>
      rw [q2] at h
      dsimp only at h
      by_cases hlt : kd.length ≤ 15
      · rw [if_pos hlt] at h
        obtain ⟨kv, e1, e2, e3, e4⟩ := keys_rps r q2
        obtain ⟨z1, z2, z3⟩ := merge_zip (I := J) (B := B') (more := kv) (kd := kd) (ks := []) (vs := []) (xs := []) e2 e3 rfl trivial
        refine ⟨hid'.at_, kv, e1, by rw [e4]; exact hlt, ?_⟩
        have st' := st.adopt (u := .dK (mergeK [] kv)) (m := .dct (dMerge [] [] kd).1 (dMerge [] [] kd).2) hid' (fun ps z => by cases z) (fun q z => by cases z) ⟨_, by rw [← z1]; rfl, z2, z3.mono ⟨[p], rfl⟩ (xs := (dMerge [] [] kd).2) fun _ _ h => h⟩
        exact h (J ++ [p]) B' _ (.ref p) ((gk.trans g).adopt (.of hp) fun ps z => by cases z) st' ⟨p, by rw [← st.len]; simp, rfl⟩
      · rw [if_neg hlt] at h; exact h.elim
end
end CL
set_option Elab.async false
set_option linter.all false
set_option maxRecDepth 100000
set_option maxHeartbeats 2000000
namespace CL
open PySem PySem.Spec PyProof.Rows L2
/-- the items of a list -/
def lstOf (S : Store) : D → Option (List D)
  | .tup _ => none
  | x => itemsOf S x
variable [TheK]
variable {L : Tl}
theorem lst_items {K : PySem.W.Frag} (hK : K = TheK.K) {I : List Addr} {B H : Hp} {S : Store} {v : V} {x : D} {xs : List D} (st : Sto L I B H S) (r : Rp I B v x) (e : lstOf S x = some xs) : ∃ a vs, v = .ref a ∧ SqL K H a vs ∧ Rps I B vs xs := by
  subst hK
  unfold lstOf at e
  split at e
  · cases e
  · unfold itemsOf at e
    split at e
    · rename_i q
      exact (q _ rfl).elim
    · cases e
      obtain ⟨a, vs, h1, h2, _, h3⟩ := Rp.lst st r
      exact ⟨a, vs, h1, SqL.of h2, h3⟩
    · cases e
      obtain ⟨a, rfl, h⟩ := r
      exact ⟨a, _, rfl, st.scr h, Rps.ints _⟩
    · split at e
      · rename_i q
        cases e
        obtain ⟨a, o, rfl, _, h, vs, rfl, rv⟩ := Rp.ptr st r q
        exact ⟨a, vs, rfl, SqL.of h, rv⟩
      · cases e
    · cases e
end CL
set_option Elab.async false
set_option linter.all false
set_option maxRecDepth 100000
set_option maxHeartbeats 4000000
namespace PySem.CLSet
open PySem PySem.Spec PyProof.Rows L2
end PySem.CLSet
namespace CL
open PySem PySem.Spec PyProof.Rows L2
def insU (k : Int) : List Int → List Int
  | [] => [k]
  | x :: xs => if k < x then k :: x :: xs else if k = x then x :: xs else x :: insU k xs
def sortU (ns : List Int) : List Int := ns.foldr insU []
/-- sorted(set(e)) -/
def cSortSet (c : CE) : CE := fun z S => (c z S).bind fun x S1 => match (lstOf S1 x).bind intsOf with
  | some ns => if ns.length < 63 then .ok (.lst ((sortU ns).map D.int)) S1 else .bad
  | none => .bad
variable [TheK]
variable {T : Pm} {X : Cx} {W : WX}
end CL
set_option Elab.async false
set_option linter.all false
set_option maxRecDepth 100000
set_option maxHeartbeats 2000000
namespace CL
open PySem PySem.Spec PyProof.Rows L2
/-- x op= e, ints -/
def sAug (i : Nat) (f : Int → Int → Int) (ce : CE) : CS := fun z S => match z[i]? with
  | some (.d (.int a)) => oDo (ce z S) z fun y S' => match y with
    | .int b => .nx (z.set i (.d (.int (f a b)))) S'
    | _ => .bad
  | _ => .bad
/-- zip(a, b): two tuples, or two lists -/
def zipD (xs ys : List D) : List D := List.zipWith (fun x y => .tup [x, y]) xs ys
def iZip (ca cb : CE) : CA := fun z S => (ca z S).bind fun x S1 => (cb z S1).bind fun y S2 => match x, y with
  | .tup xs, .tup ys => .ok (zipD xs ys) S2
  | .lst xs, .lst ys => .ok (zipD xs ys) S2
  | _, _ => .bad
/-- o.f, y = a, b -/
def sFldPar (C : Addr) (fl : Str) (co : CE) (j : Nat) (ca : CA) : CS := fun z S => oDo (ca z S) z fun xs S1 => match xs with
  | [x, y] => oDo (co z S1) z fun d S2 => match d with
    | .ptr i => match S2[i]? with
      | some (.ins C' ns vs) => if C' = C ∧ ns.length < 1000 then .nx (z.set j (.d y)) (S2.set i (.ins C' (putN fl x ns vs).1 (putN fl x ns vs).2)) else .bad
      | _ => .bad
    | _ => .bad
  | _ => .bad
/-- o.p = v, p a property that may be set -/
def sSetProp (C : Addr) (g : G) (co cv : CE) : CS := fun z S => oDo (cv z S) z fun v S1 => oDo (co z S1) z fun d S2 => match classOf S2 d with
  | some p => if p.1 = C then match g [d, v] S2 with
    | .ok _ S3 => .nx z S3
    | .exc x S3 => .exc x z S3
    | .bad => .bad else .bad
  | none => .bad
variable [TheK]
variable {L : Tl} {T : Pm} {X : Cx} {W : WX}
section
variable {I0 : List Addr} {B0 H0 : Hp} {pos : Pos}
theorem s_aug {i : Nat} {x : Str} {e : Expr} {ce : CE} {op : Operator} {f : Int → Int → Int} {pos' : Pos} (hN : X.N.Nodup) (hi : X.N[i]? = some x) (hx : Loc X.env.scope x) (he : PE X e (rdE T W ce)) (ho : PIp X op (ipI f)) (hf : X.fn x = true ∨ X.env.scope.names.lookup x = some .local := by first | exact .inl rfl | exact .inr rfl | assumption) :
    PS X (.AugAssign (.Name x pos') op e pos) (rdS T I0 B0 H0 W (sAug i f ce)) := by
  refine ps_imp (ps_aug hN hi hx he ho hf) ?_
  rintro D s H ⟨I, B, z, S, g', a, h⟩
  unfold sAug at h
  cases q : z[i]? with
  | none => rw [q] at h; exact h.elim
  | some y =>
    rw [q] at h
    cases y with
    | d x =>
      cases x with
      | int k =>
        dsimp only at h
        obtain ⟨o, e1, v, e2, r⟩ := a.sl.get q
        subst e2
        have r : v = .int k := r
        subst r
        refine ⟨_, e1, ?_⟩
        refine sdo (rep := Rp) g' a h fun J B' H' S' v x g0 g1 a1 r1 f1 => ?_
        cases x with
        | int b =>
          have r1 : v = .int b := r1
          subst r1
          exact ⟨k, b, rfl, rfl, f1 J B' H' _ g0 GB.rfl (a1.setD i (v := .int (f k b)) rfl)⟩
        | _ => exact f1.elim
      | _ => exact h.elim
    | _ => exact h.elim
end
end CL
set_option Elab.async false
set_option linter.all false
set_option maxRecDepth 100000
set_option maxHeartbeats 2000000
namespace CL
open PySem PySem.Spec PyProof.Rows L2
section
variable {a b c : CE} {t u : CT} {ca : CA} {z : Sl} {S : Store} {i j n : Nat} {x y d : D} {xs ds : List D}
@[simp] theorem ev_dget2 : cDGet2 a b c z S = (a z S).bind fun x S1 => match dctAt S1 x with
  | some _ => (b z S1).bind fun y S2 => (c z S2).bind fun w S3 => match dctAt S3 x, dKey y with
    | some p, some k => .ok ((dGet p.1 p.2 k).getD w) S3
    | _, _ => .bad
  | none => .bad := rfl
@[simp] theorem ev_dpop : cDPop a b z S = (a z S).bind fun x S1 => match dctAt S1 x with
  | some _ => (b z S1).bind fun y S2 => match x, dKey y with
    | .ptr i, some k => match S2[i]? with
      | some (.dct ks xs) => match dGet ks xs k with
        | some d => .ok d (S2.set i (.dct (dDropK ks k) (dDrop ks xs k)))
        | none => .bad
      | _ => .bad
    | _, _ => .bad
  | none => .bad := rfl
@[simp] theorem ev_dput : sDPut a b c z S = oDo (c z S) z fun v S1 => oDo (a z S1) z fun x S2 => oDo (b z S2) z fun y S3 => match x, dKey y with
  | .ptr i, some k => match S3[i]? with
    | some (.dct ks xs) => if ks.length < 16777216 then .nx z (S3.set i (.dct (dPut ks xs k v).1 (dPut ks xs k v).2)) else .bad
    | _ => .bad
  | _, _ => .bad := rfl
@[simp] theorem ev_dnew : cDNew z S = .ok (.ptr S.length) (S ++ [.dct [] []]) := rfl
@[simp] theorem ev_pnil : pNil z S = .ok [] S := rfl
@[simp] theorem ev_pcons {r : CP} : pCons a b r z S = (a z S).bind fun k S1 => (b z S1).bind fun v S2 => (r z S2).bind fun ps S3 => .ok ((k, v) :: ps) S3 := rfl
@[simp] theorem ev_disp {r : CP} : cDisp r z S = (r z S).bind fun ps S1 => match keysOf ps with
  | some kd => if kd.length ≤ 15 then .ok (.ptr S1.length) (S1 ++ [.dct (dMerge [] [] kd).1 (dMerge [] [] kd).2]) else .bad
  | none => .bad := rfl
@[simp] theorem ev_sortSet : cSortSet a z S = (a z S).bind fun x S1 => match (lstOf S1 x).bind intsOf with
  | some ns => if ns.length < 63 then .ok (.lst ((sortU ns).map D.int)) S1 else .bad
  | none => .bad := rfl
@[simp] theorem ev_aug {f : Int → Int → Int} : sAug i f a z S = match z[i]? with
  | some (.d (.int k)) => oDo (a z S) z fun y S' => match y with
    | .int b => .nx (z.set i (.d (.int (f k b)))) S'
    | _ => .bad
  | _ => .bad := rfl
@[simp] theorem ev_zip : iZip a b z S = (a z S).bind fun x S1 => (b z S1).bind fun y S2 => match x, y with
  | .tup xs, .tup ys => .ok (zipD xs ys) S2
  | .lst xs, .lst ys => .ok (zipD xs ys) S2
  | _, _ => .bad := rfl
@[simp] theorem ev_fldpar {C : Addr} {fl : Str} : sFldPar C fl a j ca z S = oDo (ca z S) z fun xs S1 => match xs with
  | [x, y] => oDo (a z S1) z fun d S2 => match d with
    | .ptr i => match S2[i]? with
      | some (.ins C' ns vs) => if C' = C ∧ ns.length < 1000 then .nx (z.set j (.d y)) (S2.set i (.ins C' (putN fl x ns vs).1 (putN fl x ns vs).2)) else .bad
      | _ => .bad
    | _ => .bad
  | _ => .bad := rfl
@[simp] theorem ev_setprop {C : Addr} {g : G} : sSetProp C g a b z S = oDo (b z S) z fun v S1 => oDo (a z S1) z fun d S2 => match classOf S2 d with
  | some p => if p.1 = C then match g [d, v] S2 with
    | .ok _ S3 => .nx z S3
    | .exc x S3 => .exc x z S3
    | .bad => .bad else .bad
  | none => .bad := rfl
@[simp] theorem ev_listG {g : GG} : cListG g ca z S = (ca z S).bind fun xs S1 => match g xs S1 with
  | .ok ys S2 => .ok (.lst ys) S2
  | _ => .bad := rfl
end
theorem u1 {n : Nat} (h : n + 64 < cLine) : n + 1 < cLine := by omega
theorem u0 {n : Nat} (h : n + 64 < cLine) : n < cLine := by omega
section
variable [TheK]
variable {P : Program} {w : World} {K : PySem.W.Frag} {mg : Str → Option Value} {base : Heap} {x qual : Str} {st : Stmt} {f : Addr} {fd : FuncData} {N ps : List Str} {k : Nat} {c : CG} {L : Tl} {bd : List Stmt} {sc : Scope}
/-- as fn_y, the body and the scope written out -/
theorem fn_yd (F : Fun K x qual st f fd) (hbd : defBody st = bd) (hsc : defScope st = sc) (S : GScope N ps sc)
    (hb : ∀ (cdv : Value) (A : Around) (outer : List Env) (s : Shared) (H : Hp) (E : XK) (I0 : List Addr) (B0 : Hp) (pn : List (Addr × Obj)), Room k (A.deeper (envOfC qual sc s.heap.objs.size f cdv)) →
      GSs (gcxOf P w K mg base N qual sc f cdv A outer s H E pn) bd (rdY ⟨L, none, none⟩ I0 B0 H (kW E) c)) :
    GFnC P w K mg base L (k + 1) f fd ps (runG N.length c) := by
  subst hbd hsc
  exact fn_y F S hb
end
end CL
set_option Elab.async false
set_option linter.all false
set_option maxRecDepth 100000
namespace CL
open PySem PySem.Spec PyProof.Rows L2
variable [TheK]
section
variable {l : PySem.W.OpenLaw} {w : World} {k n : Nat} {x : Str} {mg : Str → Option Value} {fa : Addr} {h : Heap} {fd : FuncData} {g : G}
theorem start_scr {H : Hp} {a : Addr} {ns : List Int} (hS : SqL TheK.K H a (ns.map V.int)) : ∃ B : Hp, (∀ a o, B a = some o → H a = some o) ∧ (∀ a o, B a = some o → ∀ ps, o ≠ .tbl ps) ∧ (Rd B a (.lst (ns.map V.int)) ∨ KLst a ns) := by
  have one : ∀ u, H a = some u → (∀ ps, u ≠ .tbl ps) → (fun b => if b = a then H a else none) a = some u ∧ (∀ b o, (fun b => if b = a then H a else none) b = some o → H b = some o) ∧ ∀ b o, (fun b => if b = a then H a else none) b = some o → ∀ ps, o ≠ .tbl ps := fun u e nt => by
    refine ⟨by simp [e], fun b o hb => ?_, fun b o hb => ?_⟩
    · by_cases q : b = a
      · subst q; simpa using hb
      · simp [q] at hb
    · by_cases q : b = a
      · subst q; simp [e] at hb; subst hb; exact nt
      · simp [q] at hb
  rcases hS with hS | ⟨o, its, m, hk⟩
  · rcases hS with h1 | ⟨o, h1⟩
    · obtain ⟨e1, e2, e3⟩ := one _ h1 (fun ps z => by cases z)
      exact ⟨_, e2, e3, .inl (.inl e1)⟩
    · obtain ⟨e1, e2, e3⟩ := one _ h1 (fun ps z => by cases z)
      exact ⟨_, e2, e3, .inl (.inr ⟨o, e1⟩)⟩
  · exact ⟨fun _ => none, fun _ _ z => (by cases z), fun _ _ z => (by cases z), .inr ⟨o, its, m, hk⟩⟩
end
end CL
set_option Elab.async false
set_option linter.all false
set_option maxRecDepth 100000
set_option maxHeartbeats 2000000
namespace CL
open PySem PySem.Spec PyProof.Rows L2
def iRange2B (a b : CE) : CA := fun z S => (a z S).bind fun d S1 => (b z S1).bind fun e S2 => match d, e with
  | .int i, .int j => .ok ((List.range (j - i).toNat).map fun (k : Nat) => D.int (i + (k : Int))) S2
  | _, _ => .bad
@[simp] theorem ev_range2B {a b : CE} {z : Sl} {S : Store} : iRange2B a b z S = (a z S).bind fun d S1 => (b z S1).bind fun e S2 => match d, e with
  | .int i, .int j => .ok ((List.range (j - i).toNat).map fun (k : Nat) => D.int (i + (k : Int))) S2
  | _, _ => .bad := rfl
variable [TheK]
variable {T : Pm} {X : Cx} {W : WX}
end CL
set_option Elab.async false
set_option linter.all false
set_option maxRecDepth 100000
set_option maxHeartbeats 2000000
namespace PySem
open Sem (wp)
end PySem
namespace L2
open PySem PySem.Spec PyProof.Rows GenW
end L2
namespace CL
open PySem PySem.Spec PyProof.Rows L2
variable [TheK]
variable {L : Tl} {T : Pm} {X : Cx} {W : WX}
section
variable {k : Nat} {f C : Addr} {fd : FuncData} {ps : List Str} {g : GG} {m : Str} {apos pos pos2 : Pos} {e o : Expr} {es : List Expr} {ca : CA} {co : CE} {E : XK} {p : Pos}
/-- list(o.m(..)), m a generator method that lets nothing out -/
def cListGm (C : Addr) (m : Str) (g : GG) (co : CE) (ca : CA) : CE := fun z S => (co z S).bind fun x S1 => match classOf S1 x with
  | some (C', ns) => if C' = C ∧ m ∉ ns then (ca z S1).bind fun xs S2 => (match g (x :: xs) S2 with
    | .ok ys S3 => .ok (.lst ys) S3
    | _ => .bad) else .bad
  | none => .bad
@[simp] theorem ev_listGm {z : Sl} {S : Store} : cListGm C m g co ca z S = (co z S).bind fun x S1 => match classOf S1 x with
  | some (C', ns) => if C' = C ∧ m ∉ ns then (ca z S1).bind fun xs S2 => (match g (x :: xs) S2 with
    | .ok ys S3 => .ok (.lst ys) S3
    | _ => .bad) else .bad
  | none => .bad := rfl
end
end CL
set_option Elab.async false
set_option linter.all false
set_option maxRecDepth 100000
set_option maxHeartbeats 2000000
namespace CL
open PySem PySem.Spec PyProof.Rows L2
end CL
set_option Elab.async false
set_option linter.all false
set_option maxRecDepth 100000
set_option maxHeartbeats 2000000
namespace CL
open PySem PySem.Spec PyProof.Rows L2 LamX NdefX
variable [TheK]
/-- g(..), where g was handed on -/
def cActF (i : Nat) (ac : List D → Store → R D) (ca : CA) : CE := fun z S => match z[i]? with
  | some .f => (ca z S).bind ac
  | _ => .bad
/-- what the lambda does: act: its body; zs: what it captured -/
def lamG (n : Nat) (act : CE) (zs : Sl) : List D → Store → R D := fun ds S => if ds.length = n then act (ds.map SV.d ++ zs) S else .bad
/-- the captured slots -/
def capV : Option SV → SV
  | some (.d x) => .d x
  | _ => .u
def capZ (z : Sl) (js : List Nat) : Sl := js.map fun j => capV z[j]?
structure CapOk (I : List Addr) (B : Hp) (ws : List (Option V)) (zs : Sl) : Prop where
  len : zs.length = ws.length
  at_ : ∀ (i : Nat) (o : Option V) (y : SV), ws[i]? = some o → zs[i]? = some y → y = .u ∨ ∃ x v, y = .d x ∧ o = some v ∧ Rp I B v x
/-- the frames between the making and now have changed nothing that was not known -/
structure Over (s1 : Shared) (H1 : Hp) (fs : List Addr) (Y : Cx) : Prop where
  un : ∀ {pins : List (Addr × Obj)} {σ : L2.St} {H : Hp} {s : Shared}, Inv Y pins σ H s → Un fs [] H1 H s1.heap s.heap
theorem Over.blk {s1 s : Shared} {H1 H : Hp} {fs : List Addr} {X : Cx} {pins : List (Addr × Obj)} {σ : L2.St} {scope : Scope} {ce : Env} {fp : List Addr} (ov : Over s1 H1 fs X) (I : Inv X pins σ H s) (hf : ∀ b ∈ fp, FpOk X pins H b) : Over s1 H1 fs (X.blk s H scope ce fp) :=
  ⟨fun J => ov.un (I.call' (ch := fp) J.os J.base J.hok J.bare fun b hb => let ⟨_, q1, _, q3, q4, q5⟩ := hf b hb; ⟨q3, q1, q4, q5⟩)⟩
theorem cells_un {cl : List (Str × Addr)} {fr : List Str} {ws : List (Option V)} {h h' : Heap} {fs : List Addr} {H H' : Hp} (C : CellsAt cl fr ws h H) (u : Un fs [] H H' h h') : CellsAt cl fr ws h' H' := by
  have kc : ∀ {c v}, H c = none → h.IsCell c v → h'.IsCell c v := fun {c v} n ⟨o, ho, hd⟩ => by
    obtain ⟨sl, q⟩ := u.any ho n (by simp)
    exact ⟨_, q, hd⟩
  refine ⟨C.len, fun y c e => ?_, C.inj, fun i y e => ?_⟩
  · obtain ⟨n, v, hv⟩ := C.all y c e
    refine ⟨?_, v, kc n hv⟩
    obtain ⟨o, ho, _⟩ := hv
    exact u.free c o ho n (by simp)
  · obtain ⟨c, hc, hv⟩ := C.has i y e
    obtain ⟨n, _⟩ := C.all y c hc
    exact ⟨c, hc, fun v ev => let ⟨x, r, q⟩ := hv v ev; ⟨x, r, kc n q⟩⟩
/-- a def that was handed a lambda may call it -/
structure ActOk (s1 : Shared) (H1 : Hp) (fs : List Addr) (P : Program) (w : World) (K : PySem.W.Frag) (mg : Str → Option Value) (base : Heap) (k : Nat) (an : Str) (L : Tl) (FF : Option (Addr × List Addr × Hp × Hp)) (ac : List D → Store → R D) : Prop where
  call : ∀ (Y : Cx) (W : WX) (i : Nat) (e : Expr) (es : List Expr) (ca : CA) (p1 p2 : Pos), Y.prog = P → Y.w = w → Y.K = K → Y.mg = mg → Y.base = base → Over s1 H1 fs Y → Takes Y W → Room (k + 1) Y.A → Y.calm = true →
    Y.N[i]? = some an → Vis Y.env.scope an → PA Y (e :: es) (rdA ⟨L, none, FF⟩ W ca) → starEach (e :: es) Y.env = (false, eval e Y.env) :: starEach es Y.env → (backTo p2 (starEach es Y.env)).any (·.1) = false →
    PE Y (.Call (.Name an p1) (e :: es) [] p2) (rdE ⟨L, none, FF⟩ W (cActF i ac ca))
  call0 : ∀ (Y : Cx) (W : WX) (i : Nat) (p1 p2 : Pos), Y.prog = P → Y.w = w → Y.K = K → Y.mg = mg → Y.base = base → Over s1 H1 fs Y → Takes Y W → Room (k + 1) Y.A → Y.calm = true →
    Y.N[i]? = some an → Vis Y.env.scope an → PE Y (.Call (.Name an p1) [] [] p2) (rdE ⟨L, none, FF⟩ W (cActF i ac fun _ S => .ok [] S))
section
variable {P : Program} {w : World} {K : PySem.W.Frag} {mg : Str → Option Value} {base : Heap} {s1 : Shared} {H1 : Hp} {fs : List Addr} {F : NF} {N ps fr : List Str} {fl : Addr} {ws : List (Option V)} {zs : Sl} {act : CE} {TL : List (Addr × Str)} {Λ : Nat → Option LamD} {k : Nat} {an : Str} {lb : Expr} {pmv ctv : Value}
  {I1 : List Addr} {B1 : Hp}
/-- the lambda's frame: what its body is told -/
theorem lam_told {Y : Cx} {W : WX} {σ : L2.St} {JZ : List Addr} {BZ HZ : Hp} {SZ : Store} {vs : List V} {ds : List D} {Q : VK} (cap : CapOk I1 B1 ws zs) (hNl : N.length = ps.length + fr.length) (hw : ws.length = fr.length) (hl : vs.length = ps.length) (gr : Gr I1 B1 H1 JZ BZ HZ) (r : Rps JZ BZ vs ds)
    (st : Sto (tabsOf TL, [(F.c, F.qual)], Λ) JZ BZ HZ SZ) (fin : Fin (tabsOf TL, [(F.c, F.qual)], Λ) Rp W σ JZ BZ HZ Q (act (ds.map SV.d ++ zs) SZ)) :
    rdE ⟨(tabsOf TL, [], Λ), none, none⟩ (kW (WE W σ)) act (startF N vs ws) HZ Q := by
  have hcode : HZ F.c = some (CodeO F.c F.qual) := st.tb.2 (F.c, F.qual) (by simp)
  have nin := st.codeOut hcode
  have st0 : Sto (tabsOf TL, [], Λ) JZ BZ HZ SZ := st.codes ⟨st.tb.1, by simp⟩
  have back : ∀ {J B' H' S'}, Gr JZ BZ HZ J B' H' → Sto (tabsOf TL, [], Λ) J B' H' S' → Sto (tabsOf TL, [(F.c, F.qual)], Λ) J B' H' S' := fun g st => st.codes ⟨st.tb.1, fun p hp => by
    have : p = (F.c, F.qual) := by simpa using hp
    subst this
    exact g.keep F.c _ hcode nin codeO_ne⟩
  have dl := r.len
  have sl : startF N vs ws = vs.map some ++ ws := by
    unfold startF
    rw [show N.length - vs.length - ws.length = 0 from by omega, List.replicate_zero, List.append_nil]
  rw [sl]
  refine ⟨HZ, JZ, BZ, ds.map SV.d ++ zs, SZ, ⟨⟨?_, fun i o x h1 h2 => ?_, fun i j a x y h1 h2 h3 h4 o1 o2 => ?_⟩, st0⟩, ?_⟩
  · rw [List.length_append, List.length_append, List.length_map, List.length_map, cap.len, dl]
  · by_cases hi : i < ds.length
    · rw [List.getElem?_append_left (by simpa using hi), List.getElem?_map] at h2
      cases q : ds[i]? with
      | none => rw [q] at h2; cases h2
      | some d =>
        rw [q] at h2; cases h2
        obtain ⟨v, e1, e2⟩ := r.get q
        rw [List.getElem?_append_left (by simpa [dl] using hi), List.getElem?_map, e1] at h1
        cases h1
        exact ⟨v, rfl, e2⟩
    · rw [List.getElem?_append_right (by simpa using hi), List.length_map] at h2
      rw [List.getElem?_append_right (by simpa [dl] using hi), List.length_map, dl] at h1
      rcases cap.at_ _ o x h1 h2 with e | ⟨d, v, e1, e2, e3⟩
      · subst e; trivial
      · subst e1 e2; exact ⟨v, rfl, e3.gr gr⟩
  · have no : ∀ {m : Nat} {y : SV} {b : Option V}, (ds.map SV.d ++ zs)[m]? = some y → (vs.map some ++ ws)[m]? = some b → isOwn y = true → False := fun {m y b} e eb o => by
      by_cases hi : m < ds.length
      · rw [List.getElem?_append_left (by simpa using hi), List.getElem?_map] at e
        cases q : ds[m]? with
        | none => rw [q] at e; cases e
        | some d => rw [q] at e; cases e; cases o
      · rw [List.getElem?_append_right (by simpa using hi), List.length_map] at e
        rw [List.getElem?_append_right (by simpa [dl] using hi), List.length_map, dl] at eb
        rcases cap.at_ _ b y eb e with z | ⟨d, v, z, _, _⟩ <;> (subst z; cases o)
    exact (no h3 h1 o1).elim
  · cases q : act (ds.map SV.d ++ zs) SZ with
    | ok d S2 => rw [q] at fin; exact fun J B' H' v g st r => fin J B' H' v g (back g st) r
    | exc e S2 => rw [q] at fin; exact fun J B' H' c dd g st r => fin J B' H' c dd g (back g st) r
    | bad => rw [q] at fin; exact fin.elim
/-- the call itself -/
theorem lam_run {Y : Cx} {W : WX} {σ : L2.St} {pins : List (Addr × Obj)} {JZ : List Addr} {BZ HZ : Hp} {SZ : Store} {vs : List V} {us : List Value} {ds : List D} {Q : VK} {s2 : Shared} (hp : Y.prog = P) (hw : Y.w = w) (hk : Y.K = K) (hm : Y.mg = mg) (hb : Y.base = base) (ov : Over s1 H1 fs Y) (tk : Takes Y W) (hrm : Room (k + 1) Y.A)
    (C : CellsAt F.cl fr ws s1.heap H1) (hob : s1.heap.get? fl = some (PySem.W.kla_obj "<lambda>" F.qual F.params lb F.scope F.cl pmv F.c ctv)) (hno : H1 fl = none) (hnf : fl ∉ fs)
    (cap : CapOk I1 B1 ws zs) (S : NScope N ps fr F.scope) (hNl : N.length = ps.length + fr.length)
    (hbi : ∀ us : List Value, us.length = ps.length → bindArgs (PySem.W.kla_fn "<lambda>" F.qual F.params lb F.scope F.cl pmv (.ref F.c) ctv) ⟨us, []⟩ = pure (ps.zip us))
    (hla : ∀ (A : Around) (outer : List Env) (s : Shared) (H : Hp) (E : XK), Room k (A.deeper (envF F fl s.heap.objs.size)) → PE (ncx (L2.CX P w) P w K mg base N F fl A outer s H E) lb (rdE ⟨(tabsOf TL, [], Λ), none, none⟩ (kW E) act))
    (IV : Inv Y pins σ HZ s2) (r : Vals vs us) (rp : Rps JZ BZ vs ds) (gr : Gr I1 B1 H1 JZ BZ HZ) (st : Sto (tabsOf TL, [(F.c, F.qual)], Λ) JZ BZ HZ SZ)
    (fin : Fin (tabsOf TL, [(F.c, F.qual)], Λ) Rp W σ JZ BZ HZ Q (lamG ps.length act zs ds SZ)) :
    wpAny (model Y.prog Y.w) Y.A (call (.ref fl) us) (EP Y pins σ Q) Y.xe s2 := by
  subst hp hw hk hm hb
  have un := ov.un IV
  have ob2 := un.keep fl _ hob hno hnf (by simp)
  have hlen : ds.length = ps.length := by
    unfold lamG at fin
    by_cases q : ds.length = ps.length
    · exact q
    · rw [if_neg q] at fin; exact fin.elim
  have fin : Fin (tabsOf TL, [(F.c, F.qual)], Λ) Rp W σ JZ BZ HZ Q (act (ds.map SV.d ++ zs) SZ) := by
    unfold lamG at fin
    rw [if_pos hlen] at fin; exact fin
  have hl : vs.length = ps.length := by rw [rp.len]; exact hlen
  obtain ⟨oc, vc, t, co1, co2, co3⟩ : ∃ (oc : Obj) (vc : Array Value) (t : Tok), s2.heap.get? F.c = some oc ∧ oc.data = .fields vc ∧ vc[1]? = some (.str F.qual t) := by
    obtain ⟨z, _, _⟩ := IV.hok F.c _ (st.tb.2 (F.c, F.qual) (by simp))
    exact z
  have run : codeAny (model Y.prog Y.w) Y.A (.call (.ref fl) ⟨us, []⟩) (CR (L2.CX Y.prog Y.w) Y.stack Y.prog Y.w HZ s2 Q (WE W σ)) s2 := by
    refine PySem.W.kla_callFunE hrm.depth ob2 rfl S.co S.gen rfl ⟨F.c, oc, vc, t, rfl, co1, co2, co3⟩ ?_
    rw [hbi us (by rw [← r.length]; exact hl)]
    refine wpAny_pure (wpAny_newFunctionEnv S.nocell (fun ⟨n, _⟩ hy => S.par n (List.of_mem_zip hy).1) (fun h2 n1 n2 => ⟨IV.nolimit.fresh _ n2, ?_⟩) S.kind)
    have kept : ∀ b o, s2.heap.get? b = some o → h2.get? b = some o := fun b o e => n2.extBut b o (Nat.ne_of_lt (Heap.lt_size e)) (Heap.get?_push_of_some _ e)
    have J : Inv (ncx (L2.CX Y.prog Y.w) Y.prog Y.w Y.K Y.mg Y.base N F fl Y.A Y.stack s2 HZ (WE W σ)) [] (startF N vs ws) HZ { s2 with heap := h2, toks := s2.toks + (ps.zip us).length } :=
      inv_startN S hrm.hd IV.env0 hl r (cells_un C un) n1 kept
    refine PySem.W.kla_codeExpr (wpAny_mono ((hla Y.A Y.stack s2 HZ (WE W σ) (hrm.deeper _)).run [] _ _ HZ Q J (lam_told (F := F) (Y := Y) cap hNl C.len hl gr rp st fin)) (fun v s3 hq => ?_) fun e s3 hq => hq)
    obtain ⟨v', H', J', rv, q⟩ := hq
    exact ⟨v', H', J'.os, J'.bare, J'.base, J'.hok, rv, q⟩
  refine wpAny_call (codeAny_mono run fun r s3 hq => ?_)
  cases r with
  | error e => exact passAt tk σ pins HZ s2 e s3 IV hq
  | ok fl2 =>
    cases fl2 with
    | ret u => exact IV.after hq
    | next => exact False.elim hq
    | brk => exact False.elim hq
    | cont => exact False.elim hq
theorem actOk_of (C : CellsAt F.cl fr ws s1.heap H1) (hob : s1.heap.get? fl = some (PySem.W.kla_obj "<lambda>" F.qual F.params lb F.scope F.cl pmv F.c ctv)) (hno : H1 fl = none) (hnf : fl ∉ fs)
    (cap : CapOk I1 B1 ws zs) (S : NScope N ps fr F.scope) (hNl : N.length = ps.length + fr.length)
    (hbi : ∀ us : List Value, us.length = ps.length → bindArgs (PySem.W.kla_fn "<lambda>" F.qual F.params lb F.scope F.cl pmv (.ref F.c) ctv) ⟨us, []⟩ = pure (ps.zip us))
    (hla : ∀ (A : Around) (outer : List Env) (s : Shared) (H : Hp) (E : XK), Room k (A.deeper (envF F fl s.heap.objs.size)) → PE (ncx (L2.CX P w) P w K mg base N F fl A outer s H E) lb (rdE ⟨(tabsOf TL, [], Λ), none, none⟩ (kW E) act))
    (hd : (an == ("__debug__" : Str)) = false) (hcd : (an == ("__classdict__" : Str)) = false) :
    ActOk s1 H1 fs P w K mg base k an (tabsOf TL, [(F.c, F.qual)], Λ) (some (fl, I1, B1, H1)) (lamG ps.length act zs) := by
  have slot : ∀ {H0 : Hp} {IZ : List Addr} {BZ HZ : Hp} {σ : L2.St} {z : Sl} {SZ : Store} {i : Nat} {L : Tl}, At ⟨L, none, some (fl, I1, B1, H1)⟩ H0 IZ BZ HZ σ z SZ → z[i]? = some .f → σ[i]? = some (some (V.ref fl)) ∧ Gr I1 B1 H1 IZ BZ HZ := fun a e => by
    obtain ⟨o, e1, b, Ib, Bb, Hb, e2, e3, e4, _⟩ := a.sl.get e
    cases e2
    subst e3
    exact ⟨e1, e4⟩
  constructor
  · intro Y W i e es ca p1 p2 hp hw hk hm hb ov tk hrm hc hN hv ha hst hpl
    refine ⟨fun pins s σ HZ Q IV hread => ?_⟩
    obtain ⟨H0, J, B', z, SZ, a, fin⟩ := hread
    unfold cActF at fin
    cases q : z[i]? with
    | none => rw [q] at fin; exact fin.elim
    | some y =>
      cases y with
      | f =>
        rw [q] at fin
        obtain ⟨hs, gr⟩ := slot a q
        have fnAt : ∀ {H : Hp} {s : Shared} {σ : L2.St} {pins : List (Addr × Obj)}, Inv Y pins σ H s → PySem.W.FnAt fl s.heap := fun I => ⟨_, _, _, _, (ov.un I).keep fl _ hob hno hnf (by simp)⟩
        refine wpAny_Call_Name_kw (thn ((pe_var (pos := p1) hN hv hd hcd).run pins s σ HZ (fun v Hv => v = .ref fl ∧ Hv = HZ) IV ⟨.ref fl, hs, rfl, rfl⟩) fun u s2 ⟨v, Hv, I2, rv, ev, eH⟩ => ?_)
        subst ev
        subst eH
        obtain rfl : u = Value.ref fl := rv
        refine PySem.W.callWith_F (first := []) (fnAt I2) (thn (ha.run p2 pins s2 σ Hv (fun us H => ∃ J' B2 S2 ds, Gr J B' Hv J' B2 H ∧ Sto (tabsOf TL, [(F.c, F.qual)], Λ) J' B2 H S2 ∧ Rps J' B2 us ds ∧ Fin (tabsOf TL, [(F.c, F.qual)], Λ) Rp W σ J' B2 H Q (lamG ps.length act zs ds S2)) I2 ?_) fun us s3 ⟨vs, H3, I3, r3, J', B2, S2, ds, g2, st2, rp2, f2⟩ => ⟨fnAt I3, ?_⟩) hst hpl
        · exact bind a fin fun J' B2 H' S2 vs ds g a2 r f => ⟨J', B2, S2, ds, g, a2.st, r, f⟩
        · exact lam_run hp hw hk hm hb ov tk hrm C hob hno hnf cap S hNl hbi hla I3 r3 rp2 (gr.trans g2) st2 f2
      | u => rw [q] at fin; exact fin.elim
      | d _ => rw [q] at fin; exact fin.elim
      | l _ => rw [q] at fin; exact fin.elim
      | m _ _ => rw [q] at fin; exact fin.elim
      | x _ => rw [q] at fin; exact fin.elim
  · intro Y W i p1 p2 hp hw hk hm hb ov tk hrm hc hN hv
    refine ⟨fun pins s σ HZ Q IV hread => ?_⟩
    obtain ⟨H0, J, B', z, SZ, a, fin⟩ := hread
    unfold cActF at fin
    cases q : z[i]? with
    | none => rw [q] at fin; exact fin.elim
    | some y =>
      cases y with
      | f =>
        rw [q] at fin
        obtain ⟨hs, gr⟩ := slot a q
        refine wpAny_Call_Name_kw (thn ((pe_var (pos := p1) hN hv hd hcd).run pins s σ HZ (fun v Hv => v = .ref fl ∧ Hv = HZ) IV ⟨.ref fl, hs, rfl, rfl⟩) fun u s2 ⟨v, Hv, I2, rv, ev, eH⟩ => ?_)
        subst ev
        subst eH
        obtain rfl : u = Value.ref fl := rv
        refine PySem.W.callWith_F0 (first := []) ⟨_, _, _, _, (ov.un I2).keep fl _ hob hno hnf (by simp)⟩ ?_
        exact lam_run hp hw hk hm hb ov tk hrm C hob hno hnf cap S hNl hbi hla I2 .nil (ds := []) trivial gr a.st fin
      | u => rw [q] at fin; exact fin.elim
      | d _ => rw [q] at fin; exact fin.elim
      | l _ => rw [q] at fin; exact fin.elim
      | m _ _ => rw [q] at fin; exact fin.elim
      | x _ => rw [q] at fin; exact fin.elim
end
end CL
set_option Elab.async false
set_option linter.all false
set_option maxRecDepth 100000
set_option maxHeartbeats 2000000
namespace CL
open PySem PySem.Spec PyProof.Rows L2 LamX
variable [TheK]
/-- the block of a comprehension, entered from the frame X as it stood at s, H -/
structure BlkAt (X : Cx) (σ : L2.St) (s : Shared) (H : Hp) (fp : List Addr) : Prop where
  ex : ∃ pins, Inv X pins σ H s ∧ ∀ b ∈ fp, FpOk X pins H b
section
variable {X : Cx} {pins : List (Addr × Obj)} {σ : L2.St}
/-- while the block runs, the frame that holds it stands, too -/
theorem out_of {s t : Shared} {H K : Hp} {scope : Scope} {ce : Env} {fp : List Addr} {pl : List (Addr × Obj)} {τ : L2.St} (I : Inv X pins σ H s) (f : ∀ b ∈ fp, FpOk X pins H b) (J : Inv (X.blk s H scope ce fp) pl τ K t) : Inv X pins σ K t :=
  I.call' (ch := fp) J.os J.base J.hok J.bare fun b hb => by
    have q := f b hb
    exact ⟨q.2.2.2.1, q.2.1, q.2.2.2.2.1, q.2.2.2.2.2⟩
theorem fp_in {s t : Shared} {H K : Hp} {scope : Scope} {ce : Env} {fp : List Addr} {τ : L2.St} (J : Inv (X.blk s H scope ce fp) [] τ K t) (n : ∀ b ∈ fp, K b = none) : ∀ b ∈ fp, FpOk (X.blk s H scope ce fp) [] K b := by
  intro b hb
  have q := J.ok.exf b hb
  refine ⟨n b hb, q.1, J.ok.exfs b hb, Or.inl hb, ?_, ?_⟩
  · intro x c e
    exact q.2 x c e
  · intro p hp
    cases (show p ∈ ([] : List (Addr × Obj)) from hp)
end
end CL
set_option Elab.async false
set_option linter.all false
set_option maxRecDepth 100000
set_option maxHeartbeats 2000000
namespace CL
open PySem PySem.Spec PyProof.Rows L2 LamX NdefX
variable [TheK]
def caL : List CE → CA
  | [], _, S => .ok [] S
  | c :: cs, z, S => (c z S).bind fun d S1 => (caL cs z S1).bind fun ds S2 => .ok (d :: ds) S2
/-- g(.., lambda): cb: g's body by what its last parameter does; np, act, js: the lambda's parameters' number, its body, what it captures -/
def cLamN (n : Nat) (cb : (List D → Store → R D) → CS) (np : Nat) (act : CE) (js : List Nat) (cs : List CE) : CE := fun z S => (caL cs z S).bind fun ds S1 =>
  match cb (lamG np act (capZ z js)) (ds.map SV.d ++ .f :: List.replicate (n - ds.length - 1) .u) S1 with
  | .nx _ S' => .ok .non S'
  | .rt d S' => .ok d S'
  | _ => .bad
abbrev lamF (X : Cx) (lp : Arguments) (ls : Scope) (c' : Addr) : NF := ⟨"<lambda>", X.env.qual ++ "<lambda>", lp, [], ls, cloFrom X.env.cells ls.names [], c'⟩
inductive PEs (X : Cx) (T : Pm) (W : WX) : List Expr → List CE → Prop
  | nil : PEs X T W [] []
  | cons {e : Expr} {es : List Expr} {c : CE} {cs : List CE} : PE X e (rdE T W c) → PEs X T W es cs → PEs X T W (e :: es) (c :: cs)
section
variable {X : Cx} {T : Pm} {W : WX} {pins : List (Addr × Obj)} {σ : L2.St} {H0 : Hp} {z : Sl}
theorem args_run {tail : List (Bool × Sem Value)} : ∀ {es : List Expr} {cs : List CE} {I : List Addr} {B H : Hp} {S : Store} {s : Shared} {Q : List Value → Shared → Prop}, PEs X T W es cs → Inv X pins σ H s → At T H0 I B H σ z S →
    (match caL cs z S with
      | .ok ds S' => ∀ us vs J B' H' s', Inv X pins σ H' s' → Gr I B H J B' H' → At T H0 J B' H' σ z S' → Vals vs us → Rps J B' vs ds → wpAny (model X.prog X.w) X.A (spliced tail) (fun ws s2 => Q (us ++ ws) s2) X.xe s'
      | .exc e S' => ∀ J B' H' c dd, Gr I B H J B' H' → Sto T.tabs J B' H' S' → RpX J B' c dd e → W c dd σ H'
      | .bad => False) → wpAny (model X.prog X.w) X.A (spliced (es.map (fun e => (false, eval e X.env)) ++ tail)) Q X.xe s
  | [], [], I, B, H, S, s, Q, .nil, Iv, a, h => by
    have h := h [] [] I B H s Iv (Gr.refl _ _ _) a .nil trivial
    exact h
  | e :: es, c :: cs, I, B, H, S, s, Q, .cons p ps, Iv, a, h => by
    refine Calls.spliced_cons (thn (p.run pins s σ H (fun v H' => ∃ J B' S' d, c z S = .ok d S' ∧ Gr I B H J B' H' ∧ Sto T.tabs J B' H' S' ∧ Rp J B' v d) Iv ⟨H0, I, B, z, S, a, ?_⟩) fun u s1 ⟨v, H1, I1, rv, J, B1, S1, d, e1, g1, st1, r1⟩ => ?_)
    · unfold caL at h
      cases q : c z S with
      | ok d S' => exact fun J B' H' v g st r => ⟨J, B', S', d, rfl, g, st, r⟩
      | exc x S' => rw [q] at h; exact h
      | bad => rw [q] at h; exact h
    · unfold caL at h
      rw [e1] at h
      simp only [R.bind] at h
      refine args_run ps I1 (a.gr g1 st1) ?_
      cases q : caL cs z S1 with
      | ok ds S2 =>
        rw [q] at h
        exact fun us vs J2 B2 H2 s2 I2 g2 a2 rv2 rp2 => h (u :: us) (v :: vs) J2 B2 H2 s2 I2 (g1.trans g2) a2 (.cons rv rv2) ⟨r1.gr g2, rp2⟩
      | exc x S2 =>
        rw [q] at h
        exact fun J2 B2 H2 cc dd g2 => h J2 B2 H2 cc dd (g1.trans g2)
      | bad => rw [q] at h; exact h
end
section
variable {X : Cx} {W : WX} {TL : List (Addr × Str)} {Λ : Nat → Option LamD}
theorem capOk_of {T : Pm} {H0 : Hp} {I : List Addr} {B H : Hp} {σ : L2.St} {z : Sl} {S : Store} (a : At T H0 I B H σ z S) (js : List Nat) : CapOk I B (js.map (slotAt σ)) (capZ z js) := by
  refine ⟨by unfold capZ; simp, fun i o y h1 h2 => ?_⟩
  unfold capZ at h2
  rw [List.getElem?_map] at h1 h2
  cases ej : js[i]? with
  | none => rw [ej] at h1; cases h1
  | some j =>
    rw [ej] at h1 h2
    cases h1
    dsimp only [Option.map_some] at h2
    cases q : z[j]? with
    | none => rw [q] at h2; cases h2; exact .inl rfl
    | some w =>
      rw [q] at h2
      cases h2
      cases w with
      | d x =>
        obtain ⟨o, e1, v, e2, r⟩ := a.sl.get q
        subst e2
        exact .inr ⟨x, v, rfl, slotAt_of e1, r⟩
      | u => exact .inl rfl
      | l _ => exact .inl rfl
      | m _ _ => exact .inl rfl
      | f => exact .inl rfl
      | x _ => exact .inl rfl
theorem e_lamN {x an : Str} {g c P : Addr} {fd : FuncData} {st : Stmt} {k : Nat} {Ng N ps psl fr : List Str} {js : List Nat} {lp : Arguments} {lb e : Expr} {rest : List Expr} {cs : List CE} {ls ss : Scope} {p lq pos : Pos} {cb : (List D → Store → R D) → CS} {act : CE} (_hlast : (e :: rest).getLast? = some (.Lambda lp lb ls lq)) (F : Fun X.K x x st g fd) (Sg : FnScope Ng (ps ++ [an]) (defScope st)) (hbd : L2.Binds X.K fd (ps ++ [an]) [])
    (hg : Gl X x) (hm : X.mg x = some (.ref g))
    (hG : ∀ (cdg : Value) (s : Shared) (H : Hp) (I0 : List Addr) (B0 : Hp) (L : Tl) (FF : Option (Addr × List Addr × Hp × Hp)) (ac : List D → Store → R D), Room (k + 1) (X.A.deeper (envOfC x (defScope st) s.heap.objs.size g cdg)) → ActOk s H (frs X.stack) X.prog X.w X.K X.mg X.base k an L FF ac →
      PSs (cxOf C8.CX0 X.prog X.w X.K X.mg X.base Ng x (defScope st) g cdg X.A X.stack s H C8.E0).nox (defBody st) (rdS ⟨L, none, FF⟩ I0 B0 H wNo (cb ac)))
    (TB : TabB X.base X.mg c P) (hcode : X.env.code = .ref c) (hmT : (P, X.env.qual ++ "<lambda>") ∈ TL) (hu : ∀ p ∈ TL, p.1 = P → p.2 = X.env.qual ++ "<lambda>") (hr : Room (k + 2) X.A) (hss : X.env.scope = ss) (nb : ndefB ss ls fr = true) (hjs : js.map (fun j => X.N[j]?) = fr.map some)
    (hdef : defaultsOf lp X.env = ([], [])) (Sl : NScope N psl fr ls) (hNl : N.length = psl.length + fr.length)
    (hbi : ∀ (q : Str) (cl : List (Str × Addr)) (pm cv ctv : Value) (us : List Value), us.length = psl.length → bindArgs (PySem.W.kla_fn "<lambda>" q lp lb ls cl pm cv ctv) ⟨us, []⟩ = pure (psl.zip us))
    (hes : PEs X ⟨(tabsOf TL, [], Λ), none, none⟩ W (e :: rest).dropLast cs) (hlen : cs.length = ps.length)
    (hla : ∀ (A : Around) (outer : List Env) (s : Shared) (H : Hp) (E : XK) (f c' : Addr), Room k (A.deeper (envF (lamF X lp ls c') f s.heap.objs.size)) → PE (ncx (L2.CX X.prog X.w) X.prog X.w X.K X.mg X.base N (lamF X lp ls c') f A outer s H E) lb (rdE ⟨(tabsOf TL, [], Λ), none, none⟩ (kW E) act))
    (hst : starEach (e :: rest) X.env = (false, eval e X.env) :: starEach rest X.env := by rfl) (hpl : (backTo pos (starEach rest X.env)).any (·.1) = false := by rfl)
    (hsp : backTo pos (starEach (e :: rest) X.env) = (e :: rest).dropLast.map (fun e => (false, eval e X.env)) ++ [(false, eval (.Lambda lp lb ls lq) X.env)] := by rfl)
    (hdb : (x == ("__debug__" : Str)) = false := by decide) (hd : (an == ("__debug__" : Str)) = false := by decide) (hcd : (an == ("__classdict__" : Str)) = false := by decide) :
    PE X (.Call (.Name x p) (e :: rest) [] pos) (rdE ⟨(tabsOf TL, [], Λ), none, none⟩ W (cLamN Ng.length cb psl.length act js cs)) := by
  refine ⟨fun pins s σ H Q Iv hread => ?_⟩
  obtain ⟨H0, I0, B, z, S, at_, fin⟩ := hread
  obtain ⟨oc, od, kV, doc, pmv, ann, cdv, ct, osl, rfl, lk, hcg⟩ := F.ex
  refine wpAny_Call_Name_kw (ld_glob Iv hg hm ?_ hdb)
  refine PySem.W.callWith_K (h₀ := X.base) Iv.ok.mod.kin F.kp ?_ hst hpl
  rw [hsp]
  refine args_run hes Iv at_ ?_
  unfold cLamN at fin
  cases qa : caL cs z S with
  | exc y S' => rw [qa] at fin; exact fin
  | bad => rw [qa] at fin; exact fin
  | ok ds S1 =>
  rw [qa] at fin
  simp only [R.bind] at fin
  intro us vs J B1 Ha sa Ia ga aa rv rp
  have caps : Caps X (cloFrom X.env.cells ls.names []) fr js := Caps.made Ia.ok (by rw [hss]; exact ndef_free nb) (ndef_fr nb) hjs
  have hfree : ∀ y ∈ ls.names, y.2 = .free → ∃ c, X.env.cells.lookup y.1 = some c := fun y hy e => by
    have := ndef_free nb y hy e
    rw [← hss] at this
    exact this.elim (fun z => Ia.ok.has _ (.inl z)) fun z => Ia.ok.has _ (.inr z)
  refine Calls.spliced_cons (lam_make2 Ia TB hcode hmT hu (tabs_iff.mp aa.st.tb.1) hdef hfree fun fl c' pm' ctv H1 s1 IM eN tb1 hob hno hnf hco => ?_)
  refine Calls.spliced_nil ⟨IM.kIn, ?_⟩
  have t1 : TbOk (tabsOf TL, [(c', X.env.qual ++ "<lambda>")], Λ) H1 := ⟨tabs_iff.mpr tb1, fun p hp => by
    have : p = (c', X.env.qual ++ "<lambda>") := by simpa using hp
    subst this
    exact hco⟩
  have gr1 : Gr J B1 Ha J B1 H1 := gr_ext eN
  have st1 := aa.st.ext eN t1
  have am : At ⟨(tabsOf TL, [], Λ), none, none⟩ H0 J B1 H1 σ z S1 := aa.gr gr1 (aa.st.ext eN ⟨tabs_iff.mpr tb1, by simp⟩)
  have dl := rp.len
  have ul : us.length = ds.length := by rw [← rv.length]; exact dl
  have pl : ds.length = ps.length := by
    rw [← hlen]
    have : ∀ (cs : List CE) (S S' : Store) (ds : List D), caL cs z S = .ok ds S' → ds.length = cs.length := by
      intro cs
      induction cs with
      | nil => intro S S' ds h; unfold caL at h; cases h; rfl
      | cons c cs ih =>
        intro S S' ds h
        unfold caL at h
        cases q : c z S with
        | ok d S2 =>
          rw [q] at h
          simp only [R.bind] at h
          cases q2 : caL cs z S2 with
          | ok d2 S3 =>
            rw [q2] at h
            cases h
            simp [ih _ _ _ q2]
          | exc _ _ => rw [q2] at h; cases h
          | bad => rw [q2] at h; cases h
        | exc _ _ => rw [q] at h; cases h
        | bad => rw [q] at h; cases h
    exact this cs S S1 ds qa
  have rc : codeAny (model X.prog X.w) X.A (.call (.ref g) ⟨us ++ [.ref fl], []⟩) (CR C8.CX0 X.stack X.prog X.w H1 s1 Q C8.E0) s1 := by
    have hb := hbd s1 (us ++ [.ref fl]) IM.kIn (by simp [ul, pl])
    rw [List.append_nil] at hb
    have r1 : L2.RelV (V.ref fl) (Value.ref fl) := rfl
    refine run_ofS (N := Ng) (ps := ps ++ [an]) (us := us ++ [.ref fl]) (vs := vs ++ [.ref fl]) lk hcg Sg hr IM.env0 hb (rv.append (.cons r1 .nil)) (by simp [dl, pl]) fun hr' => ?_
    have ao : ActOk s1 H1 (frs X.stack) X.prog X.w X.K X.mg X.base k an (tabsOf TL, [(c', X.env.qual ++ "<lambda>")], Λ) (some (fl, J, B1, H1)) (lamG psl.length act (capZ z js)) :=
      actOk_of (F := lamF X lp ls c') (cells_of IM caps) hob hno hnf (capOk_of am js) Sl hNl (fun us h => hbi _ _ _ _ _ us h) (fun A outer s H E hr2 => hla A outer s H E fl c' hr2) hd hcd
    have body := hG cdv s1 H1 J B1 (tabsOf TL, [(c', X.env.qual ++ "<lambda>")], Λ) (some (fl, J, B1, H1)) _ hr' ao
    refine ⟨_, body.nox, J, B1, ds.map SV.d ++ .f :: List.replicate (Ng.length - ds.length - 1) .u, S1, Gr.refl _ _ _, ?_, ?_⟩
    · have nl : ps.length + 1 ≤ Ng.length := by
        have q := congrArg List.length Sg.pre
        rw [List.length_take, List.length_append] at q
        simp at q
        omega
      have sl : L2.start Ng (vs ++ [V.ref fl]) = vs.map some ++ (some (V.ref fl) :: List.replicate (Ng.length - ds.length - 1) none) := by
        unfold L2.start
        rw [List.map_append, List.length_append, List.append_assoc, dl]
        simp [Nat.sub_sub]
      rw [sl]
      refine ⟨⟨?_, fun i o y h1 h2 => ?_, fun i j a y w h1 h2 h3 h4 o1 o2 => ?_⟩, st1⟩
      · simp [dl]
      · by_cases hi : i < ds.length
        · rw [List.getElem?_append_left (by simpa using hi), List.getElem?_map] at h2
          cases q : ds[i]? with
          | none => rw [q] at h2; cases h2
          | some d =>
            rw [q] at h2; cases h2
            obtain ⟨v, e1, e2⟩ := (rp.gr gr1).get q
            rw [List.getElem?_append_left (by simpa [dl] using hi), List.getElem?_map, e1] at h1
            cases h1
            exact ⟨v, rfl, e2⟩
        · rw [List.getElem?_append_right (by simpa using hi), List.length_map] at h2
          rw [List.getElem?_append_right (by simpa [dl] using hi), List.length_map, dl] at h1
          cases hk : i - ds.length with
          | zero =>
            rw [hk] at h1 h2
            cases h1
            cases h2
            exact ⟨fl, J, B1, H1, rfl, rfl, Gr.refl _ _ _, fun _ h => h⟩
          | succ m =>
            rw [hk, List.getElem?_cons_succ, List.getElem?_replicate] at h2
            split at h2
            · cases h2; trivial
            · cases h2
      · have no : ∀ {m : Nat} {y : SV}, (ds.map SV.d ++ .f :: List.replicate (Ng.length - ds.length - 1) .u)[m]? = some y → isOwn y = true → False := fun {m y} e o => by
          by_cases hi : m < ds.length
          · rw [List.getElem?_append_left (by simpa using hi), List.getElem?_map] at e
            cases q : ds[m]? with
            | none => rw [q] at e; cases e
            | some d => rw [q] at e; cases e; cases o
          · rw [List.getElem?_append_right (by simpa using hi), List.length_map] at e
            cases hk : m - ds.length with
            | zero => rw [hk] at e; cases e; cases o
            | succ m =>
              rw [hk, List.getElem?_cons_succ, List.getElem?_replicate] at e
              split at e
              · cases e; cases o
              · cases e
        exact (no h3 o1).elim
    · cases q : cb (lamG psl.length act (capZ z js)) (ds.map SV.d ++ .f :: List.replicate (Ng.length - ds.length - 1) .u) S1 with
      | nx z' S' =>
        rw [q] at fin
        exact fun J' B' H' s' g gb a => fin J' B' H' .non (ga.trans (gr1.trans g)) (a.st.codes ⟨a.st.tb.1, by simp⟩) rfl
      | rt d S' =>
        rw [q] at fin
        exact fun J' B' H' v g gb st r => fin J' B' H' v (ga.trans (gr1.trans g)) (st.codes ⟨st.tb.1, by simp⟩) r
      | bk _ _ => rw [q] at fin; exact fin.elim
      | ct _ _ => rw [q] at fin; exact fin.elim
      | exc _ _ _ => rw [q] at fin; exact fin.elim
      | bad => rw [q] at fin; exact fin.elim
  refine wpAny_call (codeAny_mono rc fun r s2 hq => ?_)
  cases r with
  | error e => exact (show False from hq).elim
  | ok fl2 =>
    cases fl2 with
    | ret u => exact IM.after hq
    | next => exact False.elim hq
    | brk => exact False.elim hq
    | cont => exact False.elim hq
end
end CL
set_option Elab.async false
set_option linter.all false
set_option maxRecDepth 100000
namespace CL
open PySem PySem.Spec PyProof.Rows L2
variable [TheK]
section
variable {l : PySem.W.OpenLaw} {w : World} {k n : Nat} {x : Str} {mg : Str → Option Value} {fa : Addr} {h : Heap} {fd : FuncData} {g : G}
/-- cs: the code objects of the defs that make lambdas, their tables, the lambdas' names -/
theorem law_atN (cs : List (Addr × Addr × Str)) (hT : ∀ p ∈ cs, h.get? p.2.1 = some { cls := .none, data := .fields #[] }) (nT : ∀ p ∈ cs, TheK.K.lookup p.2.1 = none) (C : ∀ p ∈ cs, PySem.W.CodeHd h p.1 p.2.1) (hb : ∀ (s : Shared) (u : Value), BindsTo s fd ⟨[u], []⟩ [(x, u)])
    (hg : ∀ ns : List Int, ns.length ≤ n → ∃ S', g [.scr ns] [] = .ok (.bl true) S')
    (hF : ∀ base : Heap, TheK.K.In base → base.Ns mainGlobals mg → (∀ p ∈ cs, LamX.TabB base mg p.1 p.2.1) → FnC l.prog w TheK.K mg base (tabsOf (cs.map fun p => p.2), [], fun _ => none) k fa fd [x] g) :
    LamX.LawAtS l w TheK.K (L2.CX l.prog w) k n x mg fa h := by
  have m : ∀ {P : Addr × Addr → Prop}, (∀ p ∈ cs, P (p.1, p.2.1)) → ∀ q ∈ cs.map (fun p => (p.1, p.2.1)), P q := fun k q hq => by
    obtain ⟨p, hp, e⟩ := List.mem_map.mp hq
    rw [← e]
    exact k p hp
  refine ⟨fd, cs.map fun p => (p.1, p.2.1), spG (tabsOf (cs.map fun p => p.2), [], fun _ => none) 1 g, m hT, m nT, m C, hb, fun H a ns hl _ hH hS => ?_, fun base k1 k2 k3 => hF base k1 k2 fun p hp => k3 (p.1, p.2.1) (List.mem_map.mpr ⟨p, hp, rfl⟩)⟩
  obtain ⟨S', e⟩ := hg ns hl
  obtain ⟨B, b1, b2, b3⟩ := start_scr hS
  have tab : NdefX.TabsN (tabsOf (cs.map fun p => p.2)) H := fun q hq => by
    obtain ⟨r, hr, e1⟩ := List.mem_map.mp hq
    obtain ⟨p, hp, e2⟩ := List.mem_map.mp hr
    subst e2
    subst e1
    exact NdefX.TabN.nil (hH (p.1, p.2.1) (List.mem_map.mpr ⟨p, hp, rfl⟩))
  refine ⟨[], B, [], [.scr ns], rfl, ⟨⟨a, rfl, b3⟩, trivial⟩, ⟨rfl, List.nodup_nil, fun _ z => (by cases z), b1, b2, fun i m z => (by simp at z), tab, fun p hp => (by cases hp)⟩, ?_⟩
  rw [e]
  exact fun J B' H' v _ _ r => r
end
section
variable {P : Program} {w : World} {K : PySem.W.Frag} {mg : Str → Option Value} {base : Heap} {qual : Str} {st : Stmt} {f : Addr} {N : List Str} {k : Nat} {c : CS} {T : Pm} {bd : List Stmt} {sc : Scope}
theorem body_n {A : Around} {outer : List Env} {cdg : Value} {s : Shared} {H : Hp} {I0 : List Addr} {B0 : Hp} (hbd : defBody st = bd) (hsc : defScope st = sc)
    (h : Room k (A.deeper (envOfC qual sc s.heap.objs.size f cdg)) → PSs (cxOf C8.CX0 P w K mg base N qual sc f cdg A outer s H C8.E0).nox bd (rdS T I0 B0 H wNo c))
    (hr : Room k (A.deeper (envOfC qual (defScope st) s.heap.objs.size f cdg))) :
    PSs (cxOf C8.CX0 P w K mg base N qual (defScope st) f cdg A outer s H C8.E0).nox (defBody st) (rdS T I0 B0 H wNo c) := by
  subst hbd hsc
  exact h hr
end
end CL
namespace CL
open PySem PySem.Spec PyProof.Rows L2 LamX
end CL
set_option Elab.async false
set_option linter.all false
set_option maxRecDepth 100000
set_option maxHeartbeats 2000000
namespace CL
open PySem PySem.Spec PyProof.Rows L2
def pairsD : List D → Option (List (Key × D))
  | [] => some []
  | .tup [k, v] :: ds => match dKey k, pairsD ds with
    | some k', some r => some ((k', v) :: r)
    | _, _ => none
  | _ :: _ => none
def updR (x y : D) (S2 : Store) : R D := match x, y with
  | .ptr i, .lst ys => match S2[i]?, pairsD ys with
    | some (.dct ks xs), some kd => if ks.length + kd.length ≤ 16777216 then .ok .non (S2.set i (.dct (dMerge ks xs kd).1 (dMerge ks xs kd).2)) else .bad
    | _, _ => .bad
  | _, _ => .bad
/-- d.update(xs) -/
def cDUpd (co ck : CE) : CE := fun z S => (co z S).bind fun x S1 => match dctAt S1 x with
  | some _ => (ck z S1).bind fun y S2 => updR x y S2
  | none => .bad
variable [TheK]
end CL
set_option Elab.async false
set_option linter.all false
set_option maxRecDepth 100000
namespace CL
open PySem PySem.Spec PyProof.Rows L2
def insI (x : Int) : List Int → List Int
  | [] => [x]
  | y :: ys => if x ≤ y then x :: y :: ys else y :: insI x ys
def sortI (ns : List Int) : List Int := ns.foldr insI []
variable [TheK]
variable {L : Tl}
end CL
set_option Elab.async false
set_option linter.all false
set_option maxRecDepth 100000
namespace CL
open PySem PySem.Spec PyProof.Rows L2
section
variable {a b : CE} {ca : CA} {z : Sl} {S : Store} {i n np : Nat} {ac : List D → Store → R D} {cb : (List D → Store → R D) → CS} {act : CE} {js : List Nat} {cs : List CE} {c : CE}
@[simp] theorem ev_actF : cActF i ac ca z S = match z[i]? with | some .f => (ca z S).bind ac | _ => .bad := rfl
@[simp] theorem ev_lamN : cLamN n cb np act js cs z S = (caL cs z S).bind fun ds S1 => match cb (lamG np act (capZ z js)) (ds.map SV.d ++ .f :: List.replicate (n - ds.length - 1) .u) S1 with
  | .nx _ S' => .ok .non S'
  | .rt d S' => .ok d S'
  | _ => .bad := rfl
@[simp] theorem ev_caNil : caL [] z S = .ok [] S := rfl
@[simp] theorem ev_caCons : caL (c :: cs) z S = (c z S).bind fun d S1 => (caL cs z S1).bind fun ds S2 => .ok (d :: ds) S2 := rfl
@[simp] theorem ev_dupd : cDUpd a b z S = (a z S).bind fun x S1 => match dctAt S1 x with | some _ => (b z S1).bind fun y S2 => updR x y S2 | none => .bad := rfl
theorem lamG_at {ds : List D} {zs : Sl} (h : ds.length = np) : lamG np act zs ds S = act (ds.map SV.d ++ zs) S := by
  unfold lamG
  rw [if_pos h]
end
end CL
set_option Elab.async false
set_option linter.all false
set_option maxRecDepth 100000
set_option maxHeartbeats 2000000
namespace CL
open PySem PySem.Spec PyProof.Rows L2
open PySem.Sem (wp)
/-- zip(a, b), a list and a tuple -/
def iZipM (ca cb : CE) : CA := fun z S => (ca z S).bind fun x S1 => (cb z S1).bind fun y S2 => match x, y with
  | .lst xs, .tup ys => .ok (zipD xs ys) S2
  | _, _ => .bad
@[simp] theorem ev_zipM {a b : CE} {z : Sl} {S : Store} : iZipM a b z S = (a z S).bind fun x S1 => (b z S1).bind fun y S2 => match x, y with
  | .lst xs, .tup ys => .ok (zipD xs ys) S2
  | _, _ => .bad := rfl
variable [TheK]
variable {L : Tl} {T : Pm} {X : Cx} {W : WX}
end CL
set_option Elab.async false
set_option linter.all false
set_option maxRecDepth 100000
set_option maxHeartbeats 2000000
namespace CL
open PySem PySem.Spec PyProof.Rows L2
def sPar3 (i j l : Nat) (a : CA) : CS := fun z S => oDo (a z S) z fun ds S' => match ds with
  | [x, y, w] => .nx (((z.set i (.d x)).set j (.d y)).set l (.d w)) S'
  | _ => .bad
@[simp] theorem ev_par3 {i j l : Nat} {ca : CA} {z : Sl} {S : Store} : sPar3 i j l ca z S = oDo (ca z S) z fun ds S' => match ds with | [x, y, w] => .nx (((z.set i (.d x)).set j (.d y)).set l (.d w)) S' | _ => .bad := rfl
variable [TheK]
variable {L : Tl} {T : Pm} {X : Cx} {W : WX}
theorem Rps.three {I : List Addr} {B : Hp} {vs : List V} {x y w : D} (r : Rps I B vs [x, y, w]) : ∃ a b c, vs = [a, b, c] ∧ Rp I B a x ∧ Rp I B b y ∧ Rp I B c w := by
  match vs, r with
  | [a, b, c], r => exact ⟨a, b, c, rfl, r.1, r.2.1, r.2.2.1⟩
  | [], r => exact r.elim
  | [_], r => exact r.2.elim
  | [_, _], r => exact r.2.2.elim
  | _ :: _ :: _ :: _ :: _, r => exact r.2.2.2.elim
theorem s_par3 {I0 : List Addr} {B0 H0 : Hp} {i j l : Nat} {x y w : Str} {a b c : Expr} {ca : CA} {px py pz pt pos : Pos} {kt k2 pt2} (hc : X.calm = true) (hN : X.N.Nodup) (hi : X.N[i]? = some x) (hj : X.N[j]? = some y) (hl : X.N[l]? = some w) (hij : i ≠ j) (hil : i ≠ l) (hjl : j ≠ l)
    (hx : X.env.scope.names.lookup x = some .local) (hy : X.env.scope.names.lookup y = some .local) (hz : X.env.scope.names.lookup w = some .local) (ha : PA X [a, b, c] (rdA T W ca))
    (hw : swappedStores [.Tuple [.Name x px, .Name y py, .Name w pz] kt pt] (.Tuple [a, b, c] k2 pt2) X.env = pure (some [x, y, w]))
    (hs : swapsWithSole [.Tuple [.Name x px, .Name y py, .Name w pz] kt pt] (.Tuple [a, b, c] k2 pt2) pos.line X.env = pure false := by rfl) :
    PS X (.Assign [.Tuple [.Name x px, .Name y py, .Name w pz] kt pt] (.Tuple [a, b, c] k2 pt2) pos) (rdS T I0 B0 H0 W (sPar3 i j l ca)) := by
  refine ps_imp (ps_par3 hc hN hi hj hl hij hil hjl hx hy hz ha hw hs) ?_
  rintro D s H ⟨I, B, z, S, g', a, f⟩
  refine sdo (rep := Rps) g' a f fun J B' H' S' vs xs g0 g1 a1 r1 f1 => ?_
  match xs, f1 with
  | [x, y, w], f1 =>
    obtain ⟨v, u, t, rfl, rv, ru, rt⟩ := r1.three
    exact ⟨v, u, t, rfl, f1 J B' H' _ g0 GB.rfl (((a1.setD i rv).setD j ru).setD l rt)⟩
  | [], f1 => exact f1.elim
  | [_], f1 => exact f1.elim
  | [_, _], f1 => exact f1.elim
  | _ :: _ :: _ :: _ :: _, f1 => exact f1.elim
end CL
set_option Elab.async false
set_option linter.all false
set_option maxRecDepth 100000
set_option maxHeartbeats 2000000
namespace CL
open PySem PySem.Spec PyProof.Rows L2
def sPar3O (i j l : Nat) (c : CE) : CS := fun z S => oDo (c z S) z fun d S' => .nx (((z.set i (.d d)).set j (.l [])).set l (.l [])) S'
@[simp] theorem ev_par3O {i j l : Nat} {c : CE} {z : Sl} {S : Store} : sPar3O i j l c z S = oDo (c z S) z fun d S' => .nx (((z.set i (.d d)).set j (.l [])).set l (.l [])) S' := rfl
variable [TheK]
variable {L : Tl} {T : Pm} {X : Cx} {W : WX}
section
variable {H0 : Hp} {I J : List Addr} {B H B' H' : Hp} {s : L2.St} {z : Sl} {S : Store}
/-- no own slot knows the place -/
def NoSlot (p : Addr) (s : L2.St) (z : Sl) : Prop := ∀ (k : Nat) (b : Addr) (w : SV), s[k]? = some (some (V.ref b)) → z[k]? = some w → isOwn w = true → b ≠ p
theorem NoSlot.set {p : Addr} (f : NoSlot p s z) (i : Nat) {a : V} {y : SV} (h : isOwn y = true → a ≠ V.ref p) : NoSlot p (s.set i (some a)) (z.set i y) := fun k b w e1 e2 o => by
  by_cases e : i = k
  · subst e
    rw [List.getElem?_set_self'] at e1 e2
    cases t : s[i]? with
    | none => rw [t] at e1; cases e1
    | some _ =>
      rw [t] at e1
      cases t2 : z[i]? with
      | none => rw [t2] at e2; cases e2
      | some _ =>
        rw [t2] at e2
        cases e1; cases e2
        exact fun q => h o (by rw [q])
  · rw [List.getElem?_set_ne e] at e1 e2
    exact f k b w e1 e2 o
end
end CL
set_option Elab.async false
set_option linter.all false
set_option maxRecDepth 100000
set_option maxHeartbeats 2000000
namespace CL
open PySem PySem.Spec PyProof.Rows L2 LamX NdefX
variable [TheK]
/-- lambda ..: .. -/
def cMkF (id : Nat) : CE := fun _ S => .ok (.ptr S.length) (S ++ [.fn id])
@[simp] theorem ev_mkF {id : Nat} {z : Sl} {S : Store} : cMkF id z S = .ok (.ptr S.length) (S ++ [.fn id]) := rfl
end CL
set_option Elab.async false
set_option linter.all false
set_option maxRecDepth 100000
set_option maxHeartbeats 2000000
namespace CL
open PySem PySem.Spec PyProof.Rows L2 LamX NdefX
variable [TheK]
/-- a lambda of a frame: its number; whether it has a parameter that is 0; the slots that it captures; its body's piece -/
structure LamT where
  id : Nat
  dfl : Bool
  js : List Nat
  act : CE
def LamT.ds (t : LamT) : List D := if t.dfl then [.int 0] else []
def LamT.run (t : LamT) (zs : Sl) : List D → Store → R D := fun ds S => match ds with
  | [] => t.act (t.ds.map SV.d ++ zs) S
  | _ :: _ => .bad
def cCallS (n : Nat) (cb : (List D → Store → R D) → CS) (ts : List LamT) (ce : CE) : CE := fun z S => (ce z S).bind fun d S1 => match d with
  | .ptr k => match S1[k]? with
    | some (.fn id) => match ts.find? (fun t => t.id == id) with
      | some t => match cb (t.run (capZ z t.js)) (.f :: List.replicate (n - 1) .u) S1 with
        | .nx _ S' => .ok .non S'
        | .rt d S' => .ok d S'
        | _ => .bad
      | none => .bad
    | _ => .bad
  | _ => .bad
@[simp] theorem ev_callS {n : Nat} {cb : (List D → Store → R D) → CS} {ts : List LamT} {ce : CE} {z : Sl} {S : Store} : cCallS n cb ts ce z S = (ce z S).bind fun d S1 => match d with
  | .ptr k => match S1[k]? with
    | some (.fn id) => match ts.find? (fun t => t.id == id) with
      | some t => match cb (t.run (capZ z t.js)) (.f :: List.replicate (n - 1) .u) S1 with
        | .nx _ S' => .ok .non S'
        | .rt d S' => .ok d S'
        | _ => .bad
      | none => .bad
    | _ => .bad
  | _ => .bad := rfl
end CL
set_option Elab.async false
set_option linter.all false
set_option maxRecDepth 100000
set_option maxHeartbeats 2000000
namespace CL
open PySem PySem.Spec PyProof.Rows L2 LamX NdefX
variable [TheK]
variable {L : Tl} {T : Pm} {X : Cx} {W : WX}
def isFn : MO → Bool
  | .fn _ => true
  | _ => false
/-- no lambda is there yet -/
def noFn (c : CS) : CS := fun z S => if S.all (fun m => !isFn m) then c z S else .bad
@[simp] theorem ev_noFn0 {c : CS} {z : Sl} : noFn c z [] = c z [] := rfl
end CL
set_option linter.all false
set_option maxRecDepth 100000
set_option maxHeartbeats 1000000
namespace CL
open PySem PySem.Spec PyProof.Rows L2 NdefX LamX
variable [TheK]
section
variable {X : Cx} {T : Pm} {k : Nat} {f C Cx_ : Addr} {fd : FuncData} {ps : List Str} {g : GG} {m : Str} {apos pos pos2 : Pos} {e o : Expr} {es : List Expr} {ca : CA} {co : CE} {E : XK} {p : Pos}
def cListGx (Cx_ C : Addr) (m : Str) (g : GG) (co : CE) (ca : CA) : CE := fun z S => (co z S).bind fun x S1 => match classOf S1 x with
  | some (C', ns) => if C' = C ∧ m ∉ ns then (ca z S1).bind fun xs S2 => (match g (x :: xs) S2 with
    | .ok ys S3 => .ok (.lst ys) S3
    | .exc e S3 => if e.cls = Cx_ then .exc e S3 else .bad
    | .bad => .bad) else .bad
  | none => .bad
@[simp] theorem ev_listGx {z : Sl} {S : Store} : cListGx Cx_ C m g co ca z S = (co z S).bind fun x S1 => match classOf S1 x with
  | some (C', ns) => if C' = C ∧ m ∉ ns then (ca z S1).bind fun xs S2 => (match g (x :: xs) S2 with
    | .ok ys S3 => .ok (.lst ys) S3
    | .exc e S3 => if e.cls = Cx_ then .exc e S3 else .bad
    | .bad => .bad) else .bad
  | none => .bad := rfl
end
end CL
set_option Elab.async false
set_option linter.all false
set_option maxRecDepth 100000
set_option maxHeartbeats 1000000
namespace CL
open PySem PySem.Spec PyProof.Rows L2
def intKs : List Key → Option (List Int)
  | [] => some []
  | .inl i :: ks => (intKs ks).map (i :: ·)
  | .inr _ :: _ => none
/-- sorted(d) -/
def cSortD (c : CE) : CE := fun z S => (c z S).bind fun x S1 => match dctAt S1 x with
  | some p => match intKs p.1 with
    | some ns => if ns.length < 64 then .ok (.lst ((sortI ns).map D.int)) S1 else .bad
    | none => .bad
  | none => .bad
@[simp] theorem ev_sortD {c : CE} {z : Sl} {S : Store} : cSortD c z S = (c z S).bind fun x S1 => match dctAt S1 x with
  | some p => match intKs p.1 with
    | some ns => if ns.length < 64 then .ok (.lst ((sortI ns).map D.int)) S1 else .bad
    | none => .bad
  | none => .bad := rfl
variable [TheK]
variable {T : Pm} {X : Cx} {W : WX}
end CL
set_option Elab.async false
set_option linter.all false
set_option maxRecDepth 100000
set_option maxHeartbeats 1000000
namespace CL
open PySem PySem.Spec PyProof.Rows L2
/-- list(range(e)) -/
def cListR (c : CE) : CE := fun z S => (c z S).bind fun x S1 => match x with
  | .int n => if 0 ≤ n ∧ n ≤ 1000 then .ok (.lst (((List.range n.toNat).map fun (k : Nat) => (k : Int)).map D.int)) S1 else .bad
  | _ => .bad
@[simp] theorem ev_listR {c : CE} {z : Sl} {S : Store} : cListR c z S = (c z S).bind fun x S1 => match x with
  | .int n => if 0 ≤ n ∧ n ≤ 1000 then .ok (.lst (((List.range n.toNat).map fun (k : Nat) => (k : Int)).map D.int)) S1 else .bad
  | _ => .bad := rfl
variable [TheK]
variable {T : Pm} {X : Cx} {W : WX}
end CL
set_option Elab.async false
set_option linter.all false
set_option maxRecDepth 100000
set_option maxHeartbeats 2000000
namespace GSim
open PySem
open Sem (wp)
/-- a sleeper that cannot be woken -/
def deadK : Resume → Sem PySem.Fin := fun _ => .unsupported "asleep"
def DeadG (x : GenState) : Prop := ∃ l c p fs cl, x = .suspended deadK l c p fs cl
def noGen (fs : List Frame) : Prop := splitAtGen fs = none
def noGenS : GenState → Prop
  | .suspended _ _ _ _ fs _ => noGen fs
  | _ => True
/-- what stands on both sides -/
def PairG (x y : GenState) : Prop := (∃ k l c p fs cl, x = .suspended deadK l c p fs cl ∧ y = .suspended k l c p fs cl) ∨ (x = y ∧ noGenS x)
structure GRel (a b : Array GenState) : Prop where
  size : a.size = b.size
  pair : ∀ (i : Nat) (x : GenState), a[i]? = some x → ∃ y, b[i]? = some y ∧ PairG x y
theorem GRel.set {a b : Array GenState} (h : GRel a b) (g : Nat) {x : GenState} (hx : noGenS x) : GRel (a.setIfInBounds g x) (b.setIfInBounds g x) := by
  refine ⟨by simp [h.size], fun i y hy => ?_⟩
  rw [Array.getElem?_setIfInBounds] at hy
  by_cases e : g = i
  · subst e
    rw [if_pos rfl] at hy
    by_cases hl : g < a.size
    · rw [if_pos hl] at hy
      cases hy
      exact ⟨x, by rw [Array.getElem?_setIfInBounds, if_pos rfl, if_pos (h.size ▸ hl)], .inr ⟨rfl, hx⟩⟩
    · rw [if_neg hl] at hy; cases hy
  · rw [if_neg e] at hy
    obtain ⟨z, h1, h2⟩ := h.pair i y hy
    exact ⟨z, by rw [Array.getElem?_setIfInBounds, if_neg e, h1], h2⟩
theorem GRel.push {a b : Array GenState} (h : GRel a b) {x : GenState} (hx : noGenS x) : GRel (a.push x) (b.push x) := by
  refine ⟨by simp [h.size], fun i y hy => ?_⟩
  rw [Array.getElem?_push] at hy
  by_cases e : i = a.size
  · rw [if_pos e] at hy
    cases hy
    exact ⟨x, by rw [Array.getElem?_push, if_pos (h.size ▸ e)], .inr ⟨rfl, hx⟩⟩
  · rw [if_neg e] at hy
    obtain ⟨z, h1, h2⟩ := h.pair i y hy
    exact ⟨z, by rw [Array.getElem?_push, if_neg (by rw [← h.size]; exact e), h1], h2⟩
/-- the dead stay, and so do the sleepers that they stand for -/
def Kept (a b a' b' : Array GenState) : Prop := ∀ (i : Nat) (x : GenState), a[i]? = some x → DeadG x → a'[i]? = some x ∧ b'[i]? = b[i]?
theorem Kept.trans {a b a' b' a2 b2 : Array GenState} (h : Kept a b a' b') (k : Kept a' b' a2 b2) : Kept a b a2 b2 := fun i x e d => by
  obtain ⟨h1, h2⟩ := h i x e d
  obtain ⟨k1, k2⟩ := k i x h1 d
  exact ⟨k1, k2.trans h2⟩
theorem Kept.push {a b : Array GenState} (h : a.size = b.size) (x : GenState) : Kept a b (a.push x) (b.push x) := fun i y e d => by
  have hl : i < a.size := (Array.getElem?_eq_some_iff.mp e).1
  refine ⟨by rw [Array.getElem?_push, if_neg (by omega)]; exact e, by rw [Array.getElem?_push, if_neg (by omega)]⟩
theorem Kept.set {a b : Array GenState} {g : Nat} {y : GenState} (hg : a[g]? = some y) (hy : ¬ DeadG y) (x : GenState) : Kept a b (a.setIfInBounds g x) (b.setIfInBounds g x) := fun i z e d => by
  have ne : g ≠ i := fun q => by
    subst q
    rw [hg] at e
    cases e
    exact hy d
  exact ⟨by rw [Array.getElem?_setIfInBounds, if_neg ne]; exact e, by rw [Array.getElem?_setIfInBounds, if_neg ne]⟩
end GSim
set_option Elab.async false
set_option linter.all false
set_option maxRecDepth 100000
set_option maxHeartbeats 2000000
namespace GSim
open PySem
open Sem (wp)
/-- the code goes to its next stop; Z: what stands there -/
def Sg (M : Model) (A : Around) (Z : End → Shared → Prop) (c : Code) (t : Sem PySem.Fin) (fs : List Frame) (s : Shared) : Prop :=
  ∀ (G : Ctx) (p : Pos), G.code = c → G.Woken A → ∃ (e : End) (r : Shared), Runs M G p t fs s e r ∧ Z e r
section
variable {M : Model} {A : Around} {Z : End → Shared → Prop} {c : Code} {fs : List Frame} {s : Shared}
theorem Sg.imp {Z2 : End → Shared → Prop} {t : Sem PySem.Fin} (h : Sg M A Z c t fs s) (k : ∀ e r, Z e r → Z2 e r) : Sg M A Z2 c t fs s := fun G p h1 h2 => by
  obtain ⟨e, r, h3, h4⟩ := h G p h1 h2
  exact ⟨e, r, h3, k e r h4⟩
end
section
variable {prog : Program} {w : World} {A : Around} {Z : End → Shared → Prop} {c : Code} {fs : List Frame} {s : Shared} {env : Env}
/-- an exception leaves the loop's code -/
def noted (env : Env) (e : Value) : Sem PySem.Fin := (do noteFrame e env; theTreesLotGoes e : Sem Unit).wrap (fun _ => .raise e) .raise id id
end
end GSim
set_option Elab.async false
set_option linter.all false
set_option maxRecDepth 100000
set_option maxHeartbeats 2000000
namespace GSim
open PySem
open Sem (wp)
/-- the heap below L -/
def cutH (L : Nat) (h : Heap) : Heap := { h with objs := h.objs.extract 0 L }
def cutS (L : Nat) (s : Shared) : Shared := { s with heap := cutH L s.heap }
end GSim
namespace CL
open PySem PySem.Spec PyProof.Rows L2 GSim
/-- how a generator's code goes on: to its end, or to an item and from the store that then stands -/
inductive GT where
  | nx (z : Sl) (S : Store) | rt (d : D) (S : Store) | bk (z : Sl) (S : Store) | ct (z : Sl) (S : Store) | exc (x : Exn) (z : Sl) (S : Store) | bad
  | yl (d : D) (z : Sl) (S : Store) (k : Store → GT)
/-- what may be claimed of -/
def GT.ok : GT → Prop
  | .nx _ _ => True
  | .rt .non _ => True
  | .yl _ _ _ _ => True
  | _ => False
def noOwn (z : Sl) : Bool := z.all fun x => !isOwn x
/-- a generator's frame -/
structure Fam where
  P : Program
  w : World
  K : PySem.W.Frag
  mg : Str → Option Value
  base : Heap
  N : List Str
  qual : Str
  scope : Scope
  f : Addr
  cd : Value
  A : Around
  outer : List Env
  L : Addr
  pn : List (Addr × Obj)
def Fam.env (F : Fam) : Env := envOfC F.qual F.scope F.L F.f F.cd
/-- its context, woken at s and H -/
def Fam.X (F : Fam) (s : Shared) (H : Hp) : Cx where
  prog := F.P
  w := F.w
  K := F.K
  mg := F.mg
  base := F.base
  A := F.A.deeper (envOfC F.qual F.scope F.L F.f F.cd)
  N := F.N
  s_0 := s
  H_0 := H
  env := envOfC F.qual F.scope F.L F.f F.cd
  outer := F.outer
  stack := envOfC F.qual F.scope F.L F.f F.cd :: F.outer
  ex := []
  calm := true
  fn := fun _ => true
  pn := F.pn
  xe := fun e s' => wpAny (model F.P F.w) (F.A.deeper (envOfC F.qual F.scope F.L F.f F.cd)) (leaving (envOfC F.qual F.scope F.L F.f F.cd) e)
    (fun _ s'' => L2.CX F.P F.w F.outer H s C8.E0 e s'' ∧ ∀ p ∈ F.pn, s''.heap.get? p.1 = some p.2) (fun _ _ => False) s'
variable [TheK]
section
variable (F : Fam) (T : Pm)
/-- what stands at the next stop -/
def Zt : GT → Shared → List Addr → Hp → Hp → End → Shared → Prop
  | .nx _ S => fun s0 I0 B0 H0 e r => e = .ret (.ok (.ret .none)) ∧ ∃ J B H σ, Inv (F.X s0 H0) [] σ H r ∧ Gr I0 B0 H0 J B H ∧ Sto T.tabs J B H S
  | .rt .non S => fun s0 I0 B0 H0 e r => e = .ret (.ok (.ret .none)) ∧ ∃ J B H σ, Inv (F.X s0 H0) [] σ H r ∧ Gr I0 B0 H0 J B H ∧ Sto T.tabs J B H S
  | .yl d z S k => fun s0 I0 B0 H0 e r => ∃ v l kk p c fs, e = .susp v false l kk c p fs ∧ fs.any Frame.guarded = false ∧ ∃ ip σ J B H x, Inv (F.X s0 H0) ip σ H r ∧ (∀ p ∈ ip, F.L ≤ p.1) ∧ Gr I0 B0 H0 J B H ∧ At T H0 J B H σ z S ∧ noOwn z = true ∧ Rp J B x d ∧ RelV x v ∧
      ∀ s2 I2 B2 H2 S2, F.L ≤ s2.heap.objs.size → Inv (F.X (cutS F.L s2) H2) ip σ H2 s2 → GB J B I2 B2 → At T H2 I2 B2 H2 σ z S2 → (k S2).ok → Sg (model F.P F.w) F.A (Zt (k S2) (cutS F.L s2) I2 B2 H2) c (kk (.send .none)) fs s2
  | _ => fun _ _ _ _ _ _ => False
/-- what follows -/
structure YK (ip : List (Addr × Obj)) (cd : Code) (fs : List Frame) (K : Flow → Sem PySem.Fin) (n b c : Sl → Store → GT) (rt : D → Store → GT) (I : List Addr) (B : Hp) : Prop where
  nx : ∀ s0 I0 B0 H0 r σ H J B' z S, s0.heap.objs.size = F.L → Inv (F.X s0 H0) ip σ H r → Gr I0 B0 H0 J B' H → GB I B J B' → At T H0 J B' H σ z S → (n z S).ok → Sg (model F.P F.w) F.A (Zt F T (n z S) s0 I0 B0 H0) cd (K .next) fs r
  bk : ∀ s0 I0 B0 H0 r σ H J B' z S, s0.heap.objs.size = F.L → Inv (F.X s0 H0) ip σ H r → Gr I0 B0 H0 J B' H → GB I B J B' → At T H0 J B' H σ z S → (b z S).ok → Sg (model F.P F.w) F.A (Zt F T (b z S) s0 I0 B0 H0) cd (K .brk) fs r
  ct : ∀ s0 I0 B0 H0 r σ H J B' z S, s0.heap.objs.size = F.L → Inv (F.X s0 H0) ip σ H r → Gr I0 B0 H0 J B' H → GB I B J B' → At T H0 J B' H σ z S → (c z S).ok → Sg (model F.P F.w) F.A (Zt F T (c z S) s0 I0 B0 H0) cd (K .cont) fs r
  rt : ∀ s0 I0 B0 H0 r σ H J B' S v u d, s0.heap.objs.size = F.L → Inv (F.X s0 H0) ip σ H r → Gr I0 B0 H0 J B' H → GB I B J B' → Sto T.tabs J B' H S → Rp J B' v d → RelV v u → (rt d S).ok → Sg (model F.P F.w) F.A (Zt F T (rt d S) s0 I0 B0 H0) cd (K (.ret u)) fs r
theorem YK.gb {ip : List (Addr × Obj)} {cd : Code} {fs : List Frame} {K : Flow → Sem PySem.Fin} {n b c : Sl → Store → GT} {rt : D → Store → GT} {I I' : List Addr} {B B' : Hp} (h : YK F T ip cd fs K n b c rt I B) (g : GB I B I' B') : YK F T ip cd fs K n b c rt I' B' where
  nx := fun s0 I0 B0 H0 r σ H J B2 z S h0 i gr gb => h.nx s0 I0 B0 H0 r σ H J B2 z S h0 i gr (g.trans gb)
  bk := fun s0 I0 B0 H0 r σ H J B2 z S h0 i gr gb => h.bk s0 I0 B0 H0 r σ H J B2 z S h0 i gr (g.trans gb)
  ct := fun s0 I0 B0 H0 r σ H J B2 z S h0 i gr gb => h.ct s0 I0 B0 H0 r σ H J B2 z S h0 i gr (g.trans gb)
  rt := fun s0 I0 B0 H0 r σ H J B2 S v u d h0 i gr gb => h.rt s0 I0 B0 H0 r σ H J B2 S v u d h0 i gr (g.trans gb)
end
end CL
set_option Elab.async false
set_option linter.all false
set_option maxRecDepth 100000
set_option maxHeartbeats 2000000
namespace GSim
open PySem PySem.Spec PyProof.Rows L2
/-- locked -/
def lockL (Z : List (Addr × Obj)) (H : Hp) : Hp := fun b => match Z.lookup b with
  | some o => some (.frz o (.own 1))
  | none => H b
/-- .. and free again -/
def freeL (Z : List (Addr × Obj)) (H : Hp) : Hp := fun b => match Z.lookup b with
  | some _ => none
  | none => H b
section
variable {Z : List (Addr × Obj)} {H : Hp} {b : Addr} {o : Obj} {u : HO}
theorem lock_out (h : Z.lookup b = none) : lockL Z H b = H b := by unfold lockL; rw [h]
theorem free_in (h : Z.lookup b = some o) : freeL Z H b = none := by unfold freeL; rw [h]
theorem free_out (h : Z.lookup b = none) : freeL Z H b = H b := by unfold freeL; rw [h]
theorem free_some (h : freeL Z H b = some u) : Z.lookup b = none ∧ H b = some u := by
  cases e : Z.lookup b with
  | none => rw [free_out e] at h; exact ⟨rfl, h⟩
  | some o => rw [free_in e] at h; cases h
theorem outZ (hz : ∀ b o, Z.lookup b = some o → H b = none) (h : H b = some u) : Z.lookup b = none := by
  cases e : Z.lookup b with
  | none => rfl
  | some o => rw [hz b o e] at h; cases h
theorem outZL (hz : ∀ b o, Z.lookup b = some o → H b = some (.frz o (.own 1))) (h : H b = some u) (n : ∀ o, u ≠ .frz o (.own 1)) : Z.lookup b = none := by
  cases e : Z.lookup b with
  | none => rfl
  | some o => rw [hz b o e] at h; cases h; exact (n o rfl).elim
end
end GSim
namespace CL
open PySem PySem.Spec PyProof.Rows L2 GSim
variable [TheK]
section
variable {L : Tl} {T : Pm} {Z : List (Addr × Obj)} {I J : List Addr} {B H B' H' H0 : Hp} {S S' : Store} {v : V}
mutual
theorem Rp.freeL (hz : ∀ b o, Z.lookup b = some o → B b = some (.frz o (.own 1))) : ∀ {v : V} (x : D), Rp I B v x → Rp I (GSim.freeL Z B) v x
  | v, .non, h => h
  | v, .bl _, h => h
  | v, .int _, h => h
  | v, .str _, h => h
  | v, .byt _, h => h
  | v, .tup xs, ⟨a, vs, h1, h2, h3⟩ => ⟨a, vs, h1, by rw [free_out (outZL hz h2 fun o z => by cases z)]; exact h2, Rps.freeL hz xs h3⟩
  | v, .lst xs, ⟨a, vs, h1, h2, h3⟩ => ⟨a, vs, h1, by rw [free_out (outZL hz h2 fun o z => by cases z)]; exact h2, Rps.freeL hz xs h3⟩
  | v, .scr ns, ⟨a, h1, h2⟩ => ⟨a, h1, h2.imp (fun h2 => h2.elim (fun z => .inl (by rw [free_out (outZL hz z fun o q => by cases q)]; exact z)) fun ⟨o, z⟩ => .inr ⟨o, by rw [free_out (outZL hz z fun o q => by cases q)]; exact z⟩) id⟩
  | v, .dct ks xs, ⟨a, vs, h1, h2, h3, h4⟩ => ⟨a, vs, h1, by rw [free_out (outZL hz h2 fun o z => by cases z)]; exact h2, h3, Rps.freeL hz xs h4⟩
  | v, .obj C ns xs, ⟨a, dx, vs, h1, h2, h3, h4⟩ => ⟨a, dx, vs, h1, by rw [free_out (outZL hz h2 fun o z => by cases z)]; exact h2, h3, Rps.freeL hz xs h4⟩
  | v, .ptr i, h => h
  | v, .ref _, h => h
  | v, .ty _, h => h
theorem Rps.freeL (hz : ∀ b o, Z.lookup b = some o → B b = some (.frz o (.own 1))) : ∀ {vs : List V} (xs : List D), Rps I B vs xs → Rps I (GSim.freeL Z B) vs xs
  | [], [], _ => trivial
  | _ :: _, x :: xs, h => ⟨Rp.freeL hz x h.1, Rps.freeL hz xs h.2⟩
  | [], _ :: _, h => h.elim
  | _ :: _, [], h => h.elim
end
theorem RpM.shape {a : Addr} {u : HO} {m : MO} (r : RpM L I B H a u m) : ∀ o, u ≠ .frz o (.own 1) := fun o e => by
  subst e
  cases m with
  | lst _ => obtain ⟨_, h, _⟩ := r; cases h
  | dct _ _ => obtain ⟨_, h, _⟩ := r; cases h
  | ins _ _ _ => obtain ⟨_, _, h, _⟩ := r; cases h
  | lk _ _ => obtain ⟨_, _, h, _⟩ := r; cases h
  | fn _ => obtain ⟨_, _, _, _, _, _, h, _⟩ := r; unfold LamO at h; cases h
theorem RpM.freeL {a : Addr} {u : HO} (hz : ∀ b o, Z.lookup b = some o → B b = some (.frz o (.own 1))) (ne : Z.lookup a = none) : ∀ {m : MO}, RpM L I B H a u m → RpM L I (GSim.freeL Z B) H a u m
  | .lst xs, ⟨vs, h1, h2⟩ => ⟨vs, h1, Rps.freeL hz _ h2⟩
  | .dct ks xs, ⟨vs, h1, h2, h3⟩ => ⟨vs, h1, h2, Rps.freeL hz _ h3⟩
  | .ins C ns xs, ⟨dx, vs, h1, h2, h3⟩ => ⟨dx, vs, h1, h2, Rps.freeL hz _ h3⟩
  | .lk ks xs, ⟨od, vs, h1, h2, h3, h4⟩ => ⟨od, vs, h1, h2, Rps.freeL hz _ h3, by rw [free_out ne]; exact h4⟩
  | .fn _, ⟨D, c', dV, doc, pm, ctv, h1, h0, h2, h3, h4⟩ => ⟨D, c', dV, doc, pm, ctv, h1, by rw [free_out ne]; exact h0, h2, h3.imp id fun ⟨k1, t, k2, k3⟩ => ⟨k1, t, k2, by rw [free_out (outZL hz k3 fun o z => by cases z)]; exact k3⟩, h4⟩
theorem Sto.notZ (st : Sto L I B H S) (hz : ∀ b o, Z.lookup b = some o → B b = some (.frz o (.own 1))) : ∀ a ∈ I, Z.lookup a = none := fun a ha => by
  obtain ⟨k, hk⟩ := List.mem_iff_getElem?.mp ha
  have hl : k < S.length := by
    have := (List.getElem?_eq_some_iff.mp hk).1
    rw [st.len] at this; exact this
  obtain ⟨b, u, h1, h2, h3⟩ := st.at_ k S[k] (List.getElem?_eq_getElem hl)
  rw [hk] at h1; cases h1
  exact outZL (H := H) (fun b o e => st.sub _ _ (hz b o e)) h2 h3.shape
theorem Sto.free (st : Sto L I B H S) (hz : ∀ b o, Z.lookup b = some o → B b = some (.frz o (.own 1))) : Sto L I (GSim.freeL Z B) (GSim.freeL Z H) S := by
  have hzH : ∀ b o, Z.lookup b = some o → H b = some (.frz o (.own 1)) := fun b o e => st.sub _ _ (hz b o e)
  refine ⟨st.len, st.nd, fun a ha o e => st.dj a ha o (free_some e).2, fun a o e => ?_, fun a o e => st.nt a o (free_some e).2, fun i m e => ?_, fun q hq => ?_, fun p hp => ?_⟩
  · obtain ⟨z, e⟩ := free_some e
    rw [free_out z]; exact st.sub a o e
  · obtain ⟨a, o, h1, h2, h3⟩ := st.at_ i m e
    have ne := st.notZ hz a (List.mem_of_getElem? h1)
    refine ⟨a, o, h1, by rw [free_out ne]; exact h2, (RpM.freeL hz ne h3).cod fun c q k => ?_⟩
    rw [free_out (outZL hzH k fun o z => by cases z)]; exact k
  · obtain ⟨ps, h1, h2, h3⟩ := st.tb.1 q hq
    refine ⟨ps, by rw [free_out (outZL hzH h1 fun o z => by cases z)]; exact h1, h2, fun pos cv e => ?_⟩
    obtain ⟨c, e1, e2⟩ := h3 pos cv e
    exact ⟨c, e1, by rw [free_out (outZL hzH e2 fun o z => by cases z)]; exact e2⟩
  · have e2 := st.tb.2 p hp
    rw [free_out (outZL hzH e2 fun o z => by cases z)]; exact e2
/-- .. of a frame -/
theorem At.free {s : L2.St} {z : Sl} (hT : T.fn = none) (a : At T H0 I B H s z S) (hz : ∀ b o, Z.lookup b = some o → B b = some (.frz o (.own 1))) : At T H0 I (GSim.freeL Z B) (GSim.freeL Z H) s z S := by
  have hzH : ∀ b o, Z.lookup b = some o → H b = some (.frz o (.own 1)) := fun b o e => a.st.sub _ _ (hz b o e)
  have nB : ∀ b, B b = none → GSim.freeL Z B b = none := fun b e => by
    cases z : Z.lookup b with
    | none => rw [free_out z]; exact e
    | some o => exact free_in z
  refine ⟨⟨a.sl.len, fun i o x h1 h2 => ?_, a.sl.ne⟩, a.st.free hz⟩
  have q := a.sl.ok i o x h1 h2
  cases x with
  | u => trivial
  | d x => obtain ⟨v, e, r⟩ := q; exact ⟨v, e, r.freeL hz⟩
  | l xs =>
    obtain ⟨b, vs, e, hb, r, o1, o2, o3⟩ := q
    exact ⟨b, vs, e, by rw [free_out (outZL hzH hb fun o z => by cases z)]; exact hb, r.freeL hz, o1, nB _ o2, o3⟩
  | m ks xs =>
    obtain ⟨b, vs, e, hb, hl, r, o1, o2, o3⟩ := q
    exact ⟨b, vs, e, by rw [free_out (outZL hzH hb fun o z => by cases z)]; exact hb, hl, r.freeL hz, o1, nB _ o2, o3⟩
  | f =>
    obtain ⟨b, I1, B1, H1, h1, _⟩ := q
    rw [hT] at h1; cases h1
  | x e =>
    obtain ⟨b, d, h1, h2, h3, h4⟩ := q
    refine ⟨b, d, h1, h2, h3, h4.imp id fun ⟨c, vs, k1, k2, k3, k4⟩ => ⟨c, vs, k1, ?_, k3, k4.freeL hz⟩⟩
    rw [free_out (outZL hz k2 fun o z => by cases z)]; exact k2
theorem Gr.free {I1 : List Addr} {B1 H1 : Hp} (g1 : Gr I1 B1 H1 I B H) (hz : ∀ b o, Z.lookup b = some o → H b = none) (sub : ∀ a o, B a = some o → H a = some o) (g2 : Gr I1 B1 H1 J B' H') : Gr I1 B1 H1 J (GSim.freeL Z B') (GSim.freeL Z H') where
  pre := g2.pre
  ext := fun a o e => by rw [free_out (outZ hz (sub _ _ (g1.ext a o e)))]; exact g2.ext a o e
  new := fun a o e => g2.new a o (free_some e).2
  keep := fun a o e n t => by rw [free_out (outZ hz (g1.keep a o e n t))]; exact g2.keep a o e n t
  dom := fun a h => by
    cases z : Z.lookup a with
    | none => exact g2.dom a fun o e => h o (by rw [free_out z]; exact e)
    | some o => exact g1.dom a (.of (hz a o z))
theorem GB.free (sub : ∀ a o, B a = some o → H a = some o) (hz : ∀ b o, Z.lookup b = some o → H b = none) (g : GB I (lockL Z B) J B') : GB I B J (GSim.freeL Z B') := by
  refine ⟨g.sub, fun a o e => ?_⟩
  have z := outZ hz (sub a o e)
  rw [free_out z]
  exact g.ext a o (by rw [lock_out z]; exact e)
end
end CL
namespace GSim
open PySem
end GSim
set_option Elab.async false
set_option linter.all false
set_option maxRecDepth 100000
set_option maxHeartbeats 2000000
namespace CL
open PySem PySem.Spec PyProof.Rows L2 GSim
end CL
set_option Elab.async false
set_option linter.all false
set_option maxRecDepth 100000
set_option maxHeartbeats 2000000
namespace CL
open PySem PySem.Spec PyProof.Rows L2 GSim
end CL
set_option Elab.async false
set_option linter.all false
set_option maxRecDepth 100000
set_option maxHeartbeats 2000000
namespace CL
open PySem PySem.Spec PyProof.Rows L2 GSim
end CL
namespace CL
open PySem PySem.Spec PyProof.Rows L2
end CL
namespace CL
open PySem L2
end CL
set_option Elab.async false
set_option linter.all false
set_option maxRecDepth 100000
set_option maxHeartbeats 4000000
namespace CL
open PySem PySem.Spec PyProof.Rows L2 GSim
variable [TheK]
section
variable {X : Cx} {T : Pm} {W : WX} {H0 : Hp}
theorem Hid.free {D : Addr} {o : HO} {Z : List (Addr × Obj)} {I : List Addr} {B H : Hp} (h : Hid D o I B H) (hz : ∀ b o, Z.lookup b = some o → H b = some (.frz o (.own 1))) (n : ∀ q, o ≠ .frz q (.own 1)) : Hid D o I (freeL Z B) (freeL Z H) := by
  have z := outZL hz h.at_ n
  exact ⟨by rw [free_out z]; exact h.at_, by rw [free_out z]; exact h.nb, h.ni⟩
end
end CL
set_option Elab.async false
set_option linter.all false
set_option maxRecDepth 100000
set_option maxHeartbeats 2000000
namespace CL
open PySem PySem.Spec PyProof.Rows L2
def sPar2O (i j : Nat) (c : CE) : CS := fun z S => oDo (c z S) z fun d S' => .nx ((z.set i (.d d)).set j (.l [])) S'
@[simp] theorem ev_par2O {i j : Nat} {c : CE} {z : Sl} {S : Store} : sPar2O i j c z S = oDo (c z S) z fun d S' => .nx ((z.set i (.d d)).set j (.l [])) S' := rfl
variable [TheK]
variable {L : Tl} {T : Pm} {X : Cx} {W : WX}
end CL
set_option Elab.async false
set_option linter.all false
set_option maxRecDepth 100000
set_option maxHeartbeats 2000000
namespace CL
open PySem PySem.Spec PyProof.Rows L2
variable [TheK]
variable {L : Tl} {T : Pm} {X : Cx} {W : WX}
def cAlt {α : Type} (a b : C α) : C α := fun z S => match a z S with
  | .bad => b z S
  | r => r
@[simp] theorem ev_alt {α : Type} {a b : C α} {z : Sl} {S : Store} : cAlt a b z S = match a z S with | .bad => b z S | r => r := rfl
end CL
set_option Elab.async false
set_option linter.all false
set_option maxRecDepth 100000
set_option maxHeartbeats 2000000
namespace CL
open PySem PySem.Spec PyProof.Rows L2
/-- a def that says super(): the cell of its class, its code's record -/
structure FunS (K : PySem.W.Frag) (x qual : Str) (st : Stmt) (f : Addr) (fd : FuncData) (cc D cda : Addr) (file : Str) : Prop where
  ex : ∃ (oc : Value) (od : Option Addr) (kV doc pm : Value) (an : Option Addr) (ct : Value) (osl : Array (Option Value)),
    fd = PySem.W.ksFn x qual (defArgs st) (defBody st) (defScope st) .none kV doc pm an (.ref cda) ct cc ∧ K.lookup f = some ⟨oc, od, .func fd, osl⟩ ∧ PySem.W.codeIn K (.ref cda) qual = true
  kp : PySem.W.keepIn K (.ref f) = true
  cl : ∃ cl cld csl, K.lookup cc = some ⟨cl, cld, .cell (some (.ref D)), csl⟩
  dc : ∃ cd, PySem.W.clsIn K D = some cd
  co : ∃ ccl cdd vs ccs tf, K.lookup cda = some ⟨ccl, cdd, .fields vs, ccs⟩ ∧ vs[2]? = some (.str file tf)
section
variable [TheK] {P : Program} {w : World} {K : PySem.W.Frag} {mg : Str → Option Value} {base : Heap} {x qual : Str} {st : Stmt} {f cc D cda : Addr} {file : Str} {fd : FuncData} {N ps : List Str} {k : Nat} {c : CS} {L : Tl} {bd : List Stmt} {sc : Scope}
theorem FunS.binds {ps : List Str} (F : FunS K x qual st f fd cc D cda file)
    (h : ∀ (kV doc pm : Value) (an : Option Addr) (cdv ct : Value) (us : List Value), us.length = ps.length → bindArgs (PySem.W.ksFn x qual (defArgs st) (defBody st) (defScope st) .none kV doc pm an cdv ct cc) ⟨us, []⟩ = pure (ps.zip us)) : L2.Binds K fd ps [] := by
  obtain ⟨oc, od, kV, doc, pm, an, ct, osl, rfl, lk, hcd⟩ := F.ex
  exact .all (h kV doc pm an (.ref cda) ct)
end
end CL
set_option Elab.async false
set_option linter.all false
set_option maxRecDepth 100000
set_option maxHeartbeats 2000000
namespace CL
open PySem PySem.Spec PyProof.Rows L2 LamX NdefX
variable [TheK]
def retM : MO → MO
  | .fn _ => .fn 1000
  | m => m
theorem RpM.ret {L : Tl} {I : List Addr} {B H : Hp} {a : Addr} {o : HO} (hL : ∀ id, L.2.2 id = none) : ∀ {m : MO}, RpM L I B H a o m → RpM L I B H a o (retM m)
  | .lst _, h => h
  | .dct _ _, h => h
  | .ins _ _ _, h => h
  | .lk _ _, h => h
  | .fn _, ⟨D, c', dV, doc, pm, ctv, h1, h0, h2, h3, h4⟩ => ⟨D, c', dV, doc, pm, ctv, h1, h0, h2, h3, fun D' h => by rw [hL] at h; cases h⟩
end CL
set_option Elab.async false
set_option linter.all false
set_option maxRecDepth 100000
set_option maxHeartbeats 2000000
namespace CL
open PySem PySem.Spec PyProof.Rows L2
section
variable {M : Model} {A : Around} {E : Value → Shared → Prop} {s : Shared} {Z : Obj → Prop} {base : Heap} {env : Env} {outer : List Env} {L L' e : Addr}
/-- noted by another frame: this frame notes it, too -/
theorem looks_offZ {Q : Unit → Shared → Prop} (hZ : HandSPX.Steady Z) (hfr : A.frames = some (env :: outer)) (hf : env.frame = some L) (hLL : L' ≠ L) (held : HandSPX.HeldZ base (env :: outer) e Z L' s.heap)
    (hQ : ∀ h', HandSPX.HeldZ base (env :: outer) e Z L h' → s.heap.UpToSlots h' → Q () { s with heap := h' }) : wpAny M A (noteFrame (.ref e) env) Q E s := by
  obtain ⟨ground, fresh, frames, ob, fs, tb, otb, row, at_e, okZ, data_e, first, off, apart, at_tb, data_tb, third⟩ := held
  have unlike : ¬ ((rawInt L' == rawInt L) = true) := fun z => hLL (by
    have z := eq_of_beq z
    unfold rawInt at z
    injection z with z _
    exact Int.ofNat.inj z)
  obtain ⟨g, hg⟩ : ∃ g : Heap, g = s.heap.update tb (Obj.mapFields (·.setIfInBounds 3 Value.none)) := ⟨_, rfl⟩
  have same : ∀ b, b ≠ tb → g.get? b = s.heap.get? b := fun b nb => by rw [hg]; exact Heap.get?_update_other _ _ (Ne.symm nb)
  have plain : ∀ b o, s.heap.get? b = some o → (∀ r, o.data ≠ .fields r) → g.get? b = some o := fun b o at_b nr => by
    refine (same b fun z => ?_).trans at_b
    subst z
    rw [at_tb] at at_b
    cases at_b
    exact nr row data_tb
  have gframes : g.FunFrames base (env :: outer) := frames.of_keeps fun b o at_b nr => ⟨o, plain b o at_b nr, rfl⟩
  have gground : base.StaysIn g := fun b o at_b => by
    refine (same b fun z => ?_).trans (ground b o at_b)
    subst z
    rw [off] at at_b
    cases at_b
  have ge : g.get? e = some ob := (same e (Ne.symm apart)).trans at_e
  unfold noteFrame
  simp only [hf]
  refine wpAny_bind (wpAny_field at_e data_e first ?_)
  rw [if_pos (by simp : (Value.ref tb != Value.none) = true)]
  refine wpAny_bind (wpAny_field at_tb data_tb third ?_)
  rw [if_neg unlike]
  refine wpAny_bind (wpAny_setField at_tb data_tb (Array.getElem?_eq_some_iff.mp third).1 ?_)
  rw [← hg]
  refine HandSPX.wpAny_entryZ hZ hfr gframes hf ge gground fresh data_e (Array.getElem?_eq_some_iff.mp first).1 okZ fun h' noted => ?_
  exact hQ h' ⟨noted.1, fresh, noted.2.1, noted.2.2.1⟩ fun b o at_b nr => noted.2.2.2 b o (plain b o at_b nr) nr
theorem frames_base {h base base' : Heap} (k : ∀ b, base.get? b = none → base'.get? b = none) : ∀ {l : List Env}, h.FunFrames base l → h.FunFrames base' l
  | [], _ => trivial
  | _ :: _, ⟨hk, ⟨L, o, hf, hb, ho, hd⟩, hr⟩ => ⟨hk, ⟨L, o, hf, k _ hb, ho, hd⟩, frames_base k hr⟩
end
/-- the block of a comprehension, exceptions let out -/
abbrev blkX (X : Cx) (s : Shared) (H : Hp) (scope : Scope) (ce : Env) (fp : List Addr) (xe : Value → Shared → Prop) : Cx := (X.blk s H scope ce fp).wish xe
section
variable [TheK] {X : Cx} {pins : List (Addr × Obj)} {σ : L2.St} {W : WX}
theorem blk_fails {s0 : Shared} {H0 : Hp} {scope : Scope} {ce : Env} {fp : List Addr} {u : Value} {t : Shared} {xe : Value → Shared → Prop} (hst : X.stack = X.env :: X.outer) (hf : X.env.frame = some X.env.locals) (hcf : ce.frame = X.env.frame)
    (I : Inv X pins σ H0 s0) (ff : ∀ b ∈ fp, FpOk X pins H0 b) (hC : s0.heap.objs.size ≤ ce.locals) (tk : Takes X W) (x : XE (blkX X s0 H0 scope ce fp xe) (fun c d _ H => W c d σ H) u t) :
    notedBy (model X.prog X.w) X.A ce (CompFails (model X.prog X.w) X.A X.xe ce) u t := by
  obtain ⟨a, B, sI, pins', σ', H', cls, d, rfl, J', nb, up, sky, na, os, ag, w⟩ := x
  have J : Inv (X.blk s0 H0 scope ce fp) pins' σ' H' sI := J'.unwish
  have IX : Inv X pins σ H' sI := out_of I ff J
  have nC : H' ce.locals = none := J.free
  have fC : FpOk X pins H' ce.locals := I.fpOk hC nC
  have hfr : X.A.frames = some (X.env :: X.outer) := by rw [I.ok.frames, hst]
  have hne : (noteFrame (.ref a) ce : Sem Unit) = noteFrame (.ref a) X.env := by unfold noteFrame PySem.frameOf; rw [hcf]
  have nb : ∀ b o, sI.heap.get? b = some o → b ∉ frs X.stack → B.get? b = some o := nb
  have sky : Sky B X.stack a (Zc cls d) ce.locals t.heap := sky
  rw [hst] at sky
  have land : ∀ h1, HandSPX.HeldZ B (X.env :: X.outer) a (Zc cls d) X.env.locals h1 → t.heap.UpToSlots h1 → CompFails (model X.prog X.w) X.A X.xe ce (.ref a) { t with heap := h1 } := by
    intro h1 hh up1
    have J1 : Inv (X.blk s0 H0 scope ce fp) pins' σ' H' { t with heap := h1 } := J.landed nb hh.1 (up.trans up1) os ag
    obtain ⟨m, names, _⟩ := J1.loc
    refine ⟨m, names, fun h2 m2 names2 sb => ?_⟩
    obtain ⟨k1, k2, k3, oe, vs, T, oT, ts, he, hz, hd, h1', hnT, hTe, hT, hdT, h3⟩ := hh
    obtain ⟨oC, es, ep, hoC, hdC, _⟩ := names
    have noC : ∀ b o vs, h1.get? b = some o → o.data = .fields vs → b ≠ ce.locals := fun b o vs e q z => by
      rw [z] at e
      have hoC : h1.get? ce.locals = some oC := hoC
      rw [hoC] at e; cases e
      rw [hdC] at q; cases q
    have aC := noC a oe vs he hd
    have tC := noC T oT ts hT hdT
    have he2 : h2.get? a = some oe := (sb.2 a aC).trans he
    have hT2 : h2.get? T = some oT := (sb.2 T tC).trans hT
    obtain ⟨B2, hB2⟩ : ∃ B2, B2 = PySem.W.hideAll B [ce.locals] := ⟨_, rfl⟩
    have b2none : ∀ b, B.get? b = none → B2.get? b = none := fun b e => by
      cases q : B2.get? b with
      | none => rfl
      | some o => rw [hB2] at q; rw [PySem.W.of_hideAll _ q] at e; cases e
    have hh2 : HandSPX.HeldZ B2 (X.env :: X.outer) a (Zc cls d) X.env.locals h2 := by
      refine ⟨fun b o e => ?_, b2none a k2, frames_base b2none (Heap.FunFrames.sameBut sb names2 k3), oe, vs, T, oT, ts, he2, hz, hd, h1', b2none T hnT, hTe, hT2, hdT, h3⟩
      rw [hB2] at e
      have ne : b ≠ ce.locals := fun z => by
        rw [z, PySem.W.hideAll_none [ce.locals] (List.mem_singleton.mpr rfl)] at e; cases e
      exact (sb.2 b ne).trans (k1 b o (PySem.W.of_hideAll _ e))
    unfold PySem.passOn
    refine wpAny_bind (wpAny_field he2 hd h1' ?_)
    rw [if_neg (show ¬ ((Value.ref T == Value.none) = true) from by simp)]
    have fin : wpAny (model X.prog X.w) X.A (setFlight (.ref a) ce.frame) (fun _ s4 => wpAny (model X.prog X.w) X.A (throw (.ref a) : Sem Value) (fun _ _ => False) X.xe s4) X.xe { t with heap := h2 } := by
      rw [hcf, hf]
      refine HandSPX.setFlight_onZ hh2 fun h4 hh4 up4 => wpAny_throw (tk _ _ ?_)
      obtain ⟨c0, c1, c2, c3, c4, c5⟩ := fC
      have I2 : Inv X pins σ H' { sI with heap := PySem.W.hideAll sI.heap [ce.locals] } := IX.turned (t' := sI.toks) (it := ce.locals) (fun b o hb e => PySem.W.hideAll_get _ e (by simpa using hb)) c0 c1 c3 c4 c5
      refine ⟨a, B2, { sI with heap := PySem.W.hideAll sI.heap [ce.locals] }, pins, σ, H', cls, d, rfl, I2, fun b o e hb => ?_, fun b o e hnf => ?_, .inr (.inr (by rw [hst]; exact hh4)), na, os, ag, w⟩
      · rw [hB2]
        have e : (PySem.W.hideAll sI.heap [ce.locals]).get? b = some o := e
        have ne : b ∉ [ce.locals] := fun z => by
          rw [PySem.W.hideAll_none _ z] at e; cases e
        exact PySem.W.hideAll_get _ (nb b o (PySem.W.of_hideAll _ e) hb) ne
      · have e : (PySem.W.hideAll sI.heap [ce.locals]).get? b = some o := e
        have ne : b ≠ ce.locals := fun z => by
          rw [PySem.W.hideAll_none _ (List.mem_singleton.mpr z)] at e; cases e
        obtain ⟨sl, e1⟩ := (up.trans up1) b o (PySem.W.of_hideAll _ e) hnf
        have e2 : h2.get? b = some { o with slots := sl } := (sb.2 b ne).trans e1
        obtain ⟨sl', e3⟩ := up4 b _ e2 hnf
        exact ⟨sl', e3⟩
    first
      | exact wpAny_bind (wpAny_pure (wpAny_bind fin))
      | exact wpAny_bind fin
  show wpAny (model X.prog X.w) X.A (noteFrame (.ref a) ce) _ _ t
  rw [hne]
  rcases sky with ⟨hB, hn, hl, oe, vs, he, hz, hd, h1⟩ | fl | hh
  · exact HandSPX.look_newZ Zc.steady hfr hl hf he hB hn hd h1 hz land
  · exact HandSPX.looks_onZ Zc.steady hfr hf fl land
  · exact looks_offZ Zc.steady hfr hf fC.2.1 hh land
end
abbrev rulesAtX (X : Cx) (scope : Scope) (tg : Expr) (ifs : List Expr) (elt : Expr) (g : TG) (tt : TT) (te : TE) (s : Shared) (H : Hp) (ce : Env) (fp : List Addr) (xe : Value → Shared → Prop) : Prop :=
  PG (blkX X s H scope ce fp xe) tg g ∧ PTs (blkX X s H scope ce fp xe) ifs tt ∧ PE (blkX X s H scope ce fp xe) elt te
theorem thnX {α : Type} {t : Sem α} {Q Q' : α → Shared → Prop} {M : Model} {A : Around} {E E' : Value → Shared → Prop} {s : Shared} (hE : E = E') (h : wpAny M A t Q E s) (hQ : ∀ a s, Q a s → Q' a s) : wpAny M A t Q' E' s := by
  subst hE
  exact wpAny_mono h hQ fun _ _ x => x
section
variable [TheK] {X : Cx} {pins : List (Addr × Obj)} {σ : L2.St} {W : WX}
theorem lcX {s : Shared} {H : Hp} {Q : VK} {elt tg iter : Expr} {ifs : List Expr} {scope : Scope} {own : List (Str × Nat)} {pos pos' : Pos} {wi : TI} {g : TG} {tt : TT} {te : TE} {use : Option (Value → Sem Unit)} {Qf : Value → Shared → Prop}
    (calm : X.calm = true) (nd : X.N.Nodup) (I : Inv X pins σ H s) (src : PI X tg iter wi) (bok : BlkOk X.N X.env.scope scope own)
    (hst : X.stack = X.env :: X.outer) (hf : X.env.frame = some X.env.locals) (tk : Takes X W)
    (rules : ∀ s H C cl fp xe, Inv X pins σ H s → (∀ b ∈ fp, FpOk X pins H b) → Takes (blkX X s H scope (compEnvC scope cl C X.env) fp xe) (fun c d _ H => W c d σ H) → rulesAtX X scope tg ifs elt g tt te s H (compEnvC scope cl C X.env) fp xe)
    (nofold : ∀ x, foldedSetIterable iter X.env x = pure x) (told : tLc wi g tt te (own.map (·.2)) σ H Q)
    (after : ∀ D C t m K, Inv X pins σ K t → Q (.ref D) K → t.heap.Ns C m → FpOk X pins K C → ∀ ce : Env, ce.locals = C → compEnds (model X.prog X.w) X.A X.xe use Qf (.ref D) ce (.ok .next) t) :
    wpAny (model X.prog X.w) X.A (comprehension (.ListComp elt [⟨tg, iter, ifs, 0⟩] scope pos) scope X.env pos' (newList []) false (eval iter X.env) use) Qf X.xe s := by
  have caught : ∀ y ∈ scope.names, y.2 = .free → ∃ c, X.env.cells.lookup y.1 = some c := by
    intro y hy e
    exact I.ok.has _ (bok.free y hy e)
  refine comprehension_at (use := use) rfl nofold (closure_ok caught) bok.kind (fun y hy e => by rw [bok.uniq y hy, e]) ?_
  refine thn (src.run pins s σ H _ I told) fun _ t1 r1 => ?_
  refine thn r1 fun itv t2 r2 => ?_
  obtain ⟨it, fp, tn, J, K2, rfl, I2, T, run0, ff, rest⟩ := r2
  refine wpAny_newObj_type (newEnv_comp ?_) (by show 0 ≤ sizeLine; decide)
  -- the list that is filled
  have fresh : K2 t2.heap.objs.size = none := I2.hok.fresh (Nat.le_refl _)
  obtain ⟨Wn, ⟨m0, start⟩, turn⟩ := rest t2.heap.objs.size fresh
  have lo : ∀ b ∈ fp, b < t2.heap.objs.size := by
    intro b hb
    obtain ⟨o, e, _⟩ := T.obj _ _ run0 b hb
    exact Heap.lt_size e
  have grow : ∀ b o, t2.heap.get? b = some o → (t2.heap.push { cls := .type "list", data := .seq ([] : List Value).toArray }).get? b = some o := fun b o e => Heap.get?_push_of_some _ e
  have I3 : Inv X pins σ (upd K2 t2.heap.objs.size (.lst [])) ({ t2 with heap := t2.heap.push { cls := .type "list", data := .seq ([] : List Value).toArray } } : Shared) :=
    I2.laid (t' := t2.toks) grow (Nat.le_refl _) ⟨Nat.zero_le _, [], 0, .nil, Heap.get?_push_size _ rfl⟩
  have f3 : ∀ b ∈ fp, FpOk X pins (upd K2 t2.heap.objs.size (.lst [])) b := by
    intro b hb
    refine ⟨?_, (ff b hb).2⟩
    rw [upd_ne (Nat.ne_of_lt (lo b hb))]
    exact (ff b hb).1
  have run3 := T.keep _ _ (t2.heap.push { cls := .type "list", data := .seq ([] : List Value).toArray }) run0 fun b _ o e => grow b o e
  have l3 : ∀ b ∈ fp, b < (t2.heap.push { cls := .type "list", data := .seq ([] : List Value).toArray }).objs.size := by
    intro b hb
    rw [Heap.size_push]
    exact Nat.lt_succ_of_lt (lo b hb)
  generalize hD : t2.heap.objs.size = D at *
  generalize hK3 : upd K2 D (.lst []) = K3 at *
  generalize hh3 : t2.heap.push { cls := .type "list", data := .seq ([] : List Value).toArray } = h3 at *
  generalize ht3 : ({ t2 with heap := h3 } : Shared) = t3 at *
  have e3 : t3.heap = h3 := by rw [← ht3]
  rw [← e3] at run3 l3
  have I4 := block_start I3 bok nd fun b hb => ⟨f3 b hb, l3 b hb⟩
  have tkb := fun (xe : Value → Shared → Prop) (hxe : xe = notedBy (model X.prog X.w) X.A (compEnvC scope (cellsFrom (t3.heap.objs.size + 1) scope.names (cloFrom X.env.cells scope.names [])) t3.heap.objs.size X.env) (CompFails (model X.prog X.w) X.A X.xe (compEnvC scope (cellsFrom (t3.heap.objs.size + 1) scope.names (cloFrom X.env.cells scope.names [])) t3.heap.objs.size X.env))) => rules t3 K3 t3.heap.objs.size (cellsFrom (t3.heap.objs.size + 1) scope.names (cloFrom X.env.cells scope.names [])) fp xe I3 f3 (fun u t x => by
    rw [hxe]
    exact blk_fails hst hf rfl I3 f3 (Nat.le_refl _) tk x)
  show codeAny _ _ (.compStart (.ListComp elt [⟨tg, iter, ifs, 0⟩] scope pos) 0 (.ref it) (.ref D) (compEnvC scope (cellsFrom (t3.heap.objs.size + 1) scope.names (cloFrom X.env.cells scope.names [])) t3.heap.objs.size X.env)) (compEnds (model X.prog X.w) X.A X.xe use Qf (.ref D) (compEnvC scope (cellsFrom (t3.heap.objs.size + 1) scope.names (cloFrom X.env.cells scope.names [])) t3.heap.objs.size X.env)) { t3 with heap := pushCells (t3.heap.push { cls := .type "dict", data := .dict #[] }) scope.names }
  generalize hce : compEnvC scope (cellsFrom (t3.heap.objs.size + 1) scope.names (cloFrom X.env.cells scope.names [])) t3.heap.objs.size X.env = ce at I4 tkb ⊢
  obtain ⟨xe, hxe⟩ : ∃ xe, xe = notedBy (model X.prog X.w) X.A ce (CompFails (model X.prog X.w) X.A X.xe ce) := ⟨_, rfl⟩
  obtain ⟨ruleG, ruleT, ruleE⟩ := tkb xe hxe
  have loc : ce.locals = t3.heap.objs.size := by rw [← hce] <;> rfl
  generalize ht4 : ({ t3 with heap := pushCells (t3.heap.push { cls := .type "dict", data := .dict #[] }) scope.names } : Shared) = t4 at I4 ⊢
  have run4 : tn 0 t4.heap := T.keep _ _ _ run3 fun b _ o e => by
    rw [← ht4]
    exact pushCells_keeps _ _ _ _ (Heap.get?_push_of_some _ e)
  have loop : codeAny (model X.prog X.w) X.A (.compLoop (.ListComp elt [⟨tg, iter, ifs, 0⟩] scope pos) 0 (.ref it) (.ref D) ce) (compEnds (model X.prog X.w) X.A X.xe use Qf (.ref D) ce) t4 := by
    refine compLoop_any (fun n t => ∃ i K, Inv (blkX X t3 K3 scope ce fp xe) [] (wipe σ (own.map (·.2))) K t ∧ tn i t.heap ∧ (∀ b ∈ fp, K b = none) ∧ Wn i n K) ?_ m0 ⟨0, K3, I4.wish xe, run4, fun b hb => (f3 b hb).1, start⟩
    rintro n t5 ⟨i, K5, I5, run5, n5, w5⟩
    rcases turn i n K5 w5 with ⟨stop, over⟩ | ⟨go, Nx, down, step⟩
    · refine thnX hxe (T.done (blkX X t3 K3 scope ce fp xe) rfl rfl rfl calm i [] t5 _ K5 xe I5 (fp_in I5.unwish n5) run5 stop) fun r t6 ⟨none_, I6⟩ => ?_
      subst none_
      have nC : K5 t3.heap.objs.size = none := by
        have z : K5 ce.locals = none := I6.free
        rw [loc] at z
        exact z
      obtain ⟨m, names, _⟩ := I6.loc
      have names : t6.heap.Ns ce.locals m := names
      rw [loc] at names
      exact after D t3.heap.objs.size t6 m K5 (out_of I3 f3 I6.unwish) over names (I3.fpOk (Nat.le_refl _) nC) ce loc
    · refine thnX hxe (T.item (blkX X t3 K3 scope ce fp xe) rfl rfl rfl calm i [] t5 _ K5 xe I5 (fp_in I5.unwish n5) run5 go) fun r t6 ⟨u, some_, r6⟩ => ?_
      subst some_
      refine thnX hxe r6 fun _ t7 ⟨x, K7, I7, ru, yld, run7, n7⟩ => ?_
      have held := I7.pinned (fp_in I7.unwish n7) (T.obj _ _ run7)
      refine thnX hxe (ruleG.run _ t7 _ K7 x u _ held ru (step x K7 yld)) fun _ t8 ⟨τ, K8, I8, same, q8⟩ => ?_
      refine thnX hxe (ruleT.run _ t8 τ K8 _ I8 q8) fun yes t9 ⟨K9, I9, q9⟩ => ?_
      have again : ∀ {t : Shared} {K : Hp}, Inv (blkX X t3 K3 scope ce fp xe) ([] ++ pinsAt fp t7.heap) τ K t → Nx K → ∃ m, m < n ∧ ∃ i K, Inv (blkX X t3 K3 scope ce fp xe) [] (wipe σ (own.map (·.2))) K t ∧ tn i t.heap ∧ (∀ b ∈ fp, K b = none) ∧ Wn i m K := by
        intro t K I' nx
        obtain ⟨m, lt, w'⟩ := down K nx
        have stays : ∀ b ∈ fp, ∀ o, t7.heap.get? b = some o → t.heap.get? b = some o ∧ K b = none := by
          intro b hb o e
          have z := I'.pin (b, o) (List.mem_append_right _ (List.mem_append_right _ (mem_pinsAt hb e)))
          exact ⟨z.1, z.2.1⟩
        refine ⟨m, lt, i + 1, K, Inv.weak (Inv.unpinned (pins := []) I') ?_ ?_, ?_, ?_, w'⟩
        · rw [← same, wipe_length]
        · intro j v e
          rw [← same] at e
          exact (wipe_some e).1
        · exact T.keep _ _ _ run7 fun b hb o e => (stays b hb o e).1
        · intro b hb
          obtain ⟨o, e, _⟩ := T.obj _ _ run7 b hb
          exact (stays b hb o e).2
      cases yes with
      | false =>
        rw [if_neg Bool.false_ne_true] at q9 ⊢
        exact again I9 q9
      | true =>
        rw [if_pos rfl] at q9 ⊢
        refine thnX hxe (ruleE.run _ t9 τ K9 _ I9 q9) fun z t10 ⟨yv, K10, I10, ry, acc, atD, room, nx⟩ => ?_
        exact app_ok (X := blkX X t3 K3 scope ce fp xe) I10 atD room ry fun t11 I11 => again I11 nx
  exact codeAny_compStart_list loop (T.self X.A 0 _ _ _ run4 loop)
end
def lcGoX (g : Tg) (t : CT) (e : CE) (z : Sl) : List D → Store → List D → R (List D)
  | [], S, acc => .ok acc S
  | d :: ds, S, acc => match g d z with
    | none => .bad
    | some z1 => match t z1 S with
      | .ok true S1 => match e z1 S1 with
        | .ok x S2 => if acc.length < 16777216 then lcGoX g t e z ds S2 (acc ++ [x]) else .bad
        | .exc x S2 => .exc x S2
        | .bad => .bad
      | .ok false S1 => lcGoX g t e z ds S1 acc
      | .exc x S1 => .exc x S1
      | .bad => .bad
def cLcX (it : CA) (g : Tg) (t : CT) (e : CE) (vs : List Nat) : CE := fun z S => (it z S).bind fun ds S1 => (lcGoX g t e (wipeD z vs) ds S1 []).bind fun xs S2 => .ok (.lst xs) S2
/-- the wish of the frame that holds the block -/
abbrev wS (W : WX) (σ : L2.St) : WX := fun c d _ H => W c d σ H
section
variable [TheK] {T : Pm} {W : WX}
theorem lc_readX {it : CA} {g : Tg} {t : CT} {e : CE} {vs : List Nat} {s : L2.St} {H : Hp} {Q : VK} (h : rdE T W (cLcX it g t e vs) s H Q) :
    tLc (rdI T W it) (rdGw T vs g) (rdT T (wS W s) t) (rdE T (wS W s) e) vs s H Q := by
  obtain ⟨H0, I, B, z, S, a, h⟩ := h
  refine ⟨H0, I, B, z, S, a, ?_⟩
  unfold cLcX at h
  cases q : it z S with
  | bad => rw [q] at h; exact h.elim
  | exc x S' => rw [q] at h; exact h
  | ok ds S1 =>
    rw [q] at h
    simp only [R.bind] at h
    intro I1 B1 H1 Jt g1 st1 wk D hD
    have h := Fin.gr h g1
    have a1 := (a.gr g1 st1).wipe vs
    have hid : Hid D (.lst []) I1 B1 (upd H1 D (.lst [])) := ⟨upd_same, st1.noB hD, st1.notIn hD⟩
    refine ⟨fun i m H => m = ds.length - i ∧ i ≤ ds.length ∧ ∃ I' B' S' acc accD, Gr I1 B1 H1 I' B' H ∧ Sto T.tabs I' B' H S' ∧ Hid D (.lst acc) I' B' H ∧ Rps I' B' acc accD ∧
        Fin T.tabs Rp W s I1 B1 H1 Q ((lcGoX g t e (wipeD z vs) (ds.drop i) S' accD).bind fun xs S2 => .ok (.lst xs) S2),
      ⟨ds.length, by simp, Nat.zero_le _, I1, B1, S1, [], [], gr_own (Gr.refl _ _ _) (.of hD), st1.mono_H (keep_new hD), hid, trivial, by simpa using h⟩, ?_⟩
    rintro i m H ⟨rfl, hi, I', B', S', acc, accD, gr', st', hid', racc, f'⟩
    by_cases hlt : i < ds.length
    · refine .inr ⟨wk.goes i gr'.gb st' hlt, fun H => ∃ I' B' S' acc accD, Gr I1 B1 H1 I' B' H ∧ Sto T.tabs I' B' H S' ∧ Hid D (.lst acc) I' B' H ∧ Rps I' B' acc accD ∧
          Fin T.tabs Rp W s I1 B1 H1 Q ((lcGoX g t e (wipeD z vs) (ds.drop (i + 1)) S' accD).bind fun xs S2 => .ok (.lst xs) S2),
        fun H' p => ⟨ds.length - (i + 1), by omega, rfl, hlt, p⟩, fun x H' y => ?_⟩
      obtain ⟨I2, B2, g2, st2, r2⟩ := wk.yields i gr'.gb st' y (List.getElem?_eq_getElem hlt)
      have a2 := a1.gr (gr'.trans g2) st2
      have hid2 := hid'.gr (fun ps z => by cases z) g2
      refine ⟨H0, I2, B2, wipeD z vs, S', ds[i], a2, r2, ?_⟩
      rw [List.drop_eq_getElem_cons hlt, lcGoX] at f'
      cases q1 : g ds[i] (wipeD z vs) with
      | none => rw [q1] at f'; exact f'.elim
      | some z1 =>
        rw [q1] at f'
        dsimp only at f' ⊢
        intro s2 as2 tch
        refine ⟨by rw [tch.wipe, Tch.wipe (vs := vs) (s := s) ⟨wipe_length _ _, fun i hi => wipe_out hi⟩], ?_⟩
        refine ⟨H0, I2, B2, z1, S', as2, ?_⟩
        cases q2 : t z1 S' with
        | bad => rw [q2] at f'; exact f'.elim
        | exc x S3 => rw [q2] at f'; exact fun J2 B2 H2 c dd gg st rx => f' J2 B2 H2 c dd ((gr'.trans g2).trans gg) st rx
        | ok b S3 =>
          rw [q2] at f'
          intro I3 B3 H3 b' g3 st3 rb
          cases rb
          have hid3 := hid2.gr (fun ps z => by cases z) g3
          have gr3 := (gr'.trans g2).trans g3
          cases b with
          | false =>
            rw [if_neg Bool.false_ne_true]
            exact ⟨I3, B3, S3, acc, accD, gr3, st3, hid3, (racc.gr g2).gr g3, f'⟩
          | true =>
            rw [if_pos rfl]
            refine ⟨H0, I3, B3, z1, S3, as2.gr g3 st3, ?_⟩
            dsimp only at f'
            cases q3 : e z1 S3 with
            | bad => rw [q3] at f'; exact f'.elim
            | exc x S4 => rw [q3] at f'; exact fun J2 B2 H2 c dd gg st rx => f' J2 B2 H2 c dd (gr3.trans gg) st rx
            | ok d S4 =>
              rw [q3] at f'
              dsimp only at f'
              intro I4 B4 H4 v4 g4 st4 r4
              have hid4 := hid3.gr (fun ps z => by cases z) g4
              by_cases hl : accD.length < 16777216
              · rw [if_pos hl] at f'
                have ra := ((racc.gr g2).gr g3).gr g4
                refine ⟨acc, hid4.at_, by rw [ra.len]; exact line_lt hl, I4, B4, S4, acc ++ [v4], accD ++ [d], gr_own (gr3.trans g4) (.of hD), st4.hid hid4 (fun ps z => by cases z) (fun q z => by cases z), ⟨upd_same, hid4.nb, hid4.ni⟩, ra.append ⟨r4, trivial⟩, f'⟩
              · rw [if_neg hl] at f'; exact f'.elim
    · have ei : i = ds.length := by omega
      subst ei
      rw [List.drop_length, lcGoX] at f'
      refine .inl ⟨wk.stops gr'.gb st', ?_⟩
      have hh : Hid D (.lst acc) I' B' H := hid'
      exact f' I' (upd B' D (.lst acc)) H (.ref D) (gr'.show_ (.of hD) hh) (st'.show_ hh (fun ps z => by cases z)) ⟨D, acc, rfl, upd_same, racc.mono ⟨[], by simp⟩ (xs := accD) fun c u q => by
        rw [upd_ne]
        · exact q
        · intro e; subst e; rw [hh.nb] at q; cases q⟩
end
section
variable [TheK] {X : Cx} {W : WX} {T : Pm} {elt tg iter : Expr} {ifs : List Expr} {scope : Scope} {own : List (Str × Nat)} {it : CA} {g : Tg} {t : CT} {e : CE} {pos : Pos}
theorem e_lcX (calm : X.calm = true) (nd : X.N.Nodup) {Nn : List Str} {ss : Scope} (hNn : X.N = Nn) (hss : X.env.scope = ss) (ok : blkC Nn ss scope own = true) (src : PI X tg iter (rdI T W it))
    (hst : X.stack = X.env :: X.outer) (hf : X.env.frame = some X.env.locals) (tk : Takes X W)
    (rules : ∀ σ s H C cl fp xe, BlkAt X σ s H fp → Takes (blkX X s H scope (compEnvC scope cl C X.env) fp xe) (wS W σ) → rulesAtX X scope tg ifs elt (rdGw T (own.map (·.2)) g) (rdT T (wS W σ) t) (rdE T (wS W σ) e) s H (compEnvC scope cl C X.env) fp xe) (hs : ∀ x, foldedSetIterable iter X.env x = pure x := by intro _; rfl) :
    PE X (.ListComp elt [⟨tg, iter, ifs, 0⟩] scope pos) (rdE T W (cLcX it g t e (own.map (·.2)))) := by
  refine ⟨fun pins s σ H Q I told => ?_⟩
  rw [eval_ListComp]
  refine lcX calm nd I src (blkOk_by (by subst hNn hss; exact ok)) hst hf tk (fun s H C cl fp xe I f tkx => rules σ s H C cl fp xe ⟨pins, I, f⟩ tkx) hs (lc_readX told) ?_
  intro D C t' m K I' q names ff ce hce
  subst hce
  refine ⟨m, names, fun h'' sb => ?_⟩
  obtain ⟨n0, n1, n2, n3, n4, n5⟩ := ff
  exact ⟨.ref D, K, I'.turned (t' := t'.toks) (fun b o hb e => (sb.2 b hb).trans e) n0 n1 n3 n4 n5, rfl, q⟩
end
end CL
set_option Elab.async false
set_option linter.all false
set_option maxRecDepth 100000
set_option maxHeartbeats 2000000
namespace CL
open PySem PySem.Spec PyProof.Rows L2
end CL
set_option Elab.async false
set_option linter.all false
set_option maxRecDepth 100000
set_option maxHeartbeats 2000000
namespace CL
open PySem PySem.Spec PyProof.Rows L2
end CL
set_option Elab.async false
set_option linter.all false
set_option maxRecDepth 100000
set_option maxHeartbeats 2000000
namespace CL
open PySem PySem.Spec PyProof.Rows L2
def plainS : SV → Bool
  | .u => true
  | .d _ => true
  | _ => false
section
variable [TheK] {T : Pm} {X : Cx} {W : WX}
theorem At.base {H0 H1 H : Hp} {I : List Addr} {B : Hp} {s : L2.St} {z : Sl} {S : Store} (a : At T H0 I B H s z S) (hz : z.all plainS = true) : At T H1 I B H s z S := by
  refine ⟨⟨a.sl.len, fun i o y h1 h2 => ?_, fun i j b x y h1 h2 h3 h4 o1 o2 => a.sl.ne i j b x y h1 h2 h3 h4 o1 o2⟩, a.st⟩
  have q := a.sl.ok i o y h1 h2
  have p := List.all_eq_true.mp hz _ (List.mem_of_getElem? h2)
  cases y with
  | u => trivial
  | d x => exact q
  | l xs => cases p
  | m ks xs => cases p
  | f => cases p
  | x e => cases p
end
end CL
set_option Elab.async false
set_option linter.all false
set_option maxRecDepth 100000
set_option maxHeartbeats 2000000
namespace CL
open PySem PySem.Spec PyProof.Rows L2 LamX NdefX
end CL
set_option Elab.async false
set_option linter.all false
set_option maxRecDepth 100000
set_option maxHeartbeats 4000000
namespace CL
open PySem PySem.Spec PyProof.Rows L2
end CL
set_option Elab.async false
set_option linter.all false
set_option maxRecDepth 100000
set_option maxHeartbeats 4000000
namespace PySem.CLSetB
open PySem PySem.Spec PyProof.Rows L2
end PySem.CLSetB
namespace CL
open PySem PySem.Spec PyProof.Rows L2
end CL
set_option Elab.async false
set_option linter.all false
set_option maxRecDepth 100000
set_option maxHeartbeats 4000000
namespace CL
open PySem PySem.Spec PyProof.Rows L2
end CL
set_option Elab.async false
set_option linter.all false
set_option maxRecDepth 100000
set_option maxHeartbeats 4000000
namespace CL
open PySem PySem.Spec PyProof.Rows L2
/-- o.f, a constant of o's class -/
def cCon (C : Addr) (fl : Str) (d : D) (co : CE) : CE := fun z S => (co z S).bind fun x S1 => match classOf S1 x with
  | some (C', ns) => if C' = C ∧ fl ∉ ns then .ok d S1 else .bad
  | none => .bad
@[simp] theorem ev_con {C : Addr} {fl : Str} {d : D} {co : CE} {z : Sl} {S : Store} : cCon C fl d co z S = (co z S).bind fun x S1 => match classOf S1 x with
  | some (C', ns) => if C' = C ∧ fl ∉ ns then .ok d S1 else .bad
  | none => .bad := rfl
/-- what isinstance asks of an instance's class -/
structure ClsI (K : PySem.W.Frag) (C : Addr) : Prop where
  cl : Cls K C
  ha : PySem.W.findIn K (.ref C) "__class__" = some (some (.builtin "object.__class__"))
  hn : PySem.W.specialIn K (.builtin "object.__class__") "__get__" = some (some (.builtin "getset_descriptor.__get__"))
  htk : PySem.W.takesIn K (.builtin "object.__class__") = some true
  hm : PySem.W.mroIn K C (.type "object") = some true
variable [TheK]
variable {L : Tl} {T : Pm} {X : Cx} {W : WX}
end CL
set_option Elab.async false
set_option linter.all false
set_option maxRecDepth 100000
set_option maxHeartbeats 4000000
namespace CL
open PySem PySem.Spec PyProof.Rows L2
end CL
set_option Elab.async false
set_option linter.all false
set_option maxRecDepth 100000
set_option maxHeartbeats 4000000
namespace CL
open PySem PySem.Spec PyProof.Rows L2
/-- arguments by place, then those by name -/
def aApp (a b : CA) : CA := fun z S => (a z S).bind fun xs S1 => (b z S1).bind fun ys S2 => .ok (xs ++ ys) S2
@[simp] theorem ev_aApp {a b : CA} {z : Sl} {S : Store} : aApp a b z S = (a z S).bind fun xs S1 => (b z S1).bind fun ys S2 => .ok (xs ++ ys) S2 := rfl
variable [TheK]
variable {L : Tl} {T : Pm} {X : Cx} {W : WX}
end CL
set_option Elab.async false
set_option linter.all false
set_option maxRecDepth 100000
set_option maxHeartbeats 4000000
namespace CL
open PySem PySem.Spec PyProof.Rows L2
/-- the i-th items of tuples, ints all -/
def keysAt (i : Nat) : List D → Option (List Int)
  | [] => some []
  | .tup ys :: xs => match ys[i]? with
    | some (.int k) => (keysAt i xs).map (k :: ·)
    | _ => none
  | _ :: _ => none
/-- sorted by the i-th item, in the old order where it is the same -/
def sortAt (xs : List D) (ks : List Int) : List D := ((xs.zip ks).mergeSort fun x y => decide (x.2 ≤ y.2)).map (·.1)
/-- sorted(e, key=f), f tells the i-th item -/
def cSortK (f : Addr) (i : Nat) (ce : CE) : CE := fun z S => (ce z S).bind fun x S1 => match lstOf S1 x with
  | some xs => match keysAt i xs with
    | some ks => .ok (.lst (sortAt xs ks)) S1
    | none => .bad
  | none => .bad
@[simp] theorem ev_sortK {f : Addr} {i : Nat} {ce : CE} {z : Sl} {S : Store} : cSortK f i ce z S = (ce z S).bind fun x S1 => match lstOf S1 x with
  | some xs => match keysAt i xs with
    | some ks => .ok (.lst (sortAt xs ks)) S1
    | none => .bad
  | none => .bad := rfl
variable [TheK]
variable {L : Tl} {T : Pm} {X : Cx} {W : WX}
end CL
set_option Elab.async false
set_option linter.all false
set_option maxRecDepth 100000
set_option maxHeartbeats 4000000
namespace CL
open PySem PySem.Spec PyProof.Rows L2 GSim
def cGenM (C : Addr) (m : Str) (gy : List D → Store → GT) (co : CE) (ca : CA) : CL.C (Store → GT) := fun z S => (co z S).bind fun x S1 => match classOf S1 x with
  | some (C', ns) => if C' = C ∧ m ∉ ns then (ca z S1).bind fun ds S2 => .ok (gy (x :: ds)) S2 else .bad
  | none => .bad
@[simp] theorem ev_genM {C : Addr} {m : Str} {gy : List D → Store → GT} {co : CE} {ca : CA} {z : Sl} {S : Store} : cGenM C m gy co ca z S = (co z S).bind fun x S1 => match classOf S1 x with
  | some (C', ns) => if C' = C ∧ m ∉ ns then (ca z S1).bind fun ds S2 => .ok (gy (x :: ds)) S2 else .bad
  | none => .bad := rfl
variable [TheK]
variable {X : Cx} {T : Pm} {W : WX}
end CL
set_option Elab.async false
set_option linter.all false
set_option maxRecDepth 100000
set_option maxHeartbeats 4000000
namespace YfL
open PySem PySem.Spec PyProof.Rows L2
end YfL
namespace CL
open PySem PySem.Spec PyProof.Rows L2 GSim YfL
end CL
set_option Elab.async false
set_option linter.all false
set_option maxRecDepth 100000
set_option maxHeartbeats 4000000
namespace CL
open PySem PySem.Spec PyProof.Rows L2
end CL
set_option Elab.async false
set_option linter.all false
set_option maxRecDepth 100000
set_option maxHeartbeats 4000000
namespace CL
open PySem PySem.Spec PyProof.Rows L2
end CL
set_option Elab.async false
set_option linter.all false
set_option maxRecDepth 100000
set_option maxHeartbeats 4000000
namespace CL
open PySem PySem.Spec PyProof.Rows L2
end CL
set_option Elab.async false
set_option linter.all false
set_option maxRecDepth 100000
set_option maxHeartbeats 2000000
namespace CL
open PySem PySem.Spec PyProof.Rows L2
/-- all of 0 .. 255 -/
def byteNs (ns : List Int) : Bool := ns.all fun n => decide (0 ≤ n) && decide (n < 256)
def bBytes : List D → Store → R D
  | [x], S => match (lstOf S x).bind intsOf with
    | some ns => if byteNs ns then .ok (.byt (byteArr ns)) S else .bad
    | _ => .bad
  | _, _ => .bad
def cListB (ce : CE) : CE := fun z S => (ce z S).bind fun x S1 => match x with
  | .byt b => if b.size ≤ 16777216 then .ok (.lst ((bi b).map D.int)) S1 else .bad
  | _ => .bad
def blsOf : List D → Option (List Bool)
  | [] => some []
  | .bl i :: xs => (blsOf xs).map (i :: ·)
  | _ :: _ => none
def bAll : List D → Store → R D
  | [x], S => match (lstOf S x).bind blsOf with
    | some bs => .ok (.bl (bs.all id)) S
    | _ => .bad
  | _, _ => .bad
def aStarC (ce : CE) (ca : CA) : CA := fun z S => (ce z S).bind fun x S1 => match itemsOf S1 x with
  | some xs => (ca z S1).bind fun ys S2 => .ok (xs ++ ys) S2
  | none => .bad
/-- x *= e -/
def sAugM (i : Nat) (ce : CE) : CS := fun z S => match z[i]? with
  | some (.d (.int a)) => oDo (ce z S) z fun y S' => match y with
    | .int b => if smallI a || smallI b then .nx (z.set i (.d (.int (a * b)))) S' else .bad
    | _ => .bad
  | _ => .bad
/-- o.f += e -/
def sFldAugC (C : Addr) (fl : Str) (f : Int → Int → Int) (co ce : CE) : CS := fun z S => oDo (co z S) z fun d S1 => match d with
  | .ptr i => match S1[i]? with
    | some (.ins C' ns xs) => match (ns.zip xs).lookup fl with
      | some (.int k) => if C' = C then oDo (ce z S1) z fun y S2 => match y, S2[i]? with
        | .int m, some (.ins C2 ns2 xs2) => if C2 = C ∧ ns2.length < 1000 then .nx z (S2.set i (.ins C2 (putN fl (.int (f k m)) ns2 xs2).1 (putN fl (.int (f k m)) ns2 xs2).2)) else .bad
        | _, _ => .bad else .bad
      | _ => .bad
    | _ => .bad
  | _ => .bad
section
variable {z : Sl} {S : Store} {ce co : CE} {ca : CA} {i : Nat}
@[simp] theorem ev_listB : cListB ce z S = (ce z S).bind fun x S1 => match x with
  | .byt b => if b.size ≤ 16777216 then .ok (.lst ((bi b).map D.int)) S1 else .bad
  | _ => .bad := rfl
@[simp] theorem ev_starC : aStarC ce ca z S = (ce z S).bind fun x S1 => match itemsOf S1 x with
  | some xs => (ca z S1).bind fun ys S2 => .ok (xs ++ ys) S2
  | none => .bad := rfl
@[simp] theorem ev_augM : sAugM i ce z S = match z[i]? with
  | some (.d (.int a)) => oDo (ce z S) z fun y S' => match y with
    | .int b => if smallI a || smallI b then .nx (z.set i (.d (.int (a * b)))) S' else .bad
    | _ => .bad
  | _ => .bad := rfl
@[simp] theorem ev_fldaug {C : Addr} {fl : Str} {f : Int → Int → Int} : sFldAugC C fl f co ce z S = oDo (co z S) z fun d S1 => match d with
  | .ptr i => match S1[i]? with
    | some (.ins C' ns xs) => match (ns.zip xs).lookup fl with
      | some (.int k) => if C' = C then oDo (ce z S1) z fun y S2 => match y, S2[i]? with
        | .int m, some (.ins C2 ns2 xs2) => if C2 = C ∧ ns2.length < 1000 then .nx z (S2.set i (.ins C2 (putN fl (.int (f k m)) ns2 xs2).1 (putN fl (.int (f k m)) ns2 xs2).2)) else .bad
        | _, _ => .bad else .bad
      | _ => .bad
    | _ => .bad
  | _ => .bad := rfl
end
theorem bt_all : bootBuiltins "all" = some (.builtin "all") := by decide +kernel
variable [TheK]
variable {L : Tl} {T : Pm} {X : Cx} {W : WX}
theorem byteNs_ok {ns : List Int} (h : byteNs ns = true) : B8 ns := fun n hn => by
  have := List.all_eq_true.mp h n hn
  simp only [Bool.and_eq_true, decide_eq_true_eq] at this
  exact this
theorem k_bytes {K : PySem.W.Frag} (hK : K = TheK.K) : OkA L (fun xs H Q => ∃ p ns, xs = [.ref p] ∧ SqL K H p (ns.map V.int) ∧ B8 ns ∧ Q (.byt (byteArr ns)) H) bBytes := by
  intro W s I B H Q S vs xs st r f
  unfold bBytes at f
  split at f
  · rename_i x
    obtain ⟨v, rfl, rv⟩ := r.one
    cases q : lstOf S x with
    | none => rw [q] at f; exact f.elim
    | some ys =>
      rw [q] at f
      simp only [Option.bind] at f
      cases q2 : intsOf ys with
      | none => rw [q2] at f; exact f.elim
      | some ms =>
        rw [q2] at f
        dsimp only at f
        by_cases h8 : byteNs ms = true
        · rw [if_pos h8] at f
          obtain ⟨a, ws, rfl, h, hr⟩ := lst_items hK st rv q
          have e := intsOf_rps hr q2
          subst e
          exact ⟨a, _, rfl, h, byteNs_ok h8, f.here st rfl⟩
        · rw [if_neg h8] at f; exact f.elim
  · exact f.elim
theorem blsOf_rps {I : List Addr} {B : Hp} : ∀ {vs : List V} {xs : List D} {ns : List Bool}, Rps I B vs xs → blsOf xs = some ns → vs = ns.map V.bl
  | [], [], ns, _, e => by cases e; rfl
  | v :: vs, x :: xs, ns, h, e => by
    cases x with
    | bl b =>
      simp only [blsOf] at e
      cases q : blsOf xs with
      | none => rw [q] at e; cases e
      | some ms =>
        rw [q] at e
        cases e
        have h1 : v = .bl b := h.1
        rw [h1, blsOf_rps h.2 q]
        rfl
    | _ => simp [blsOf] at e
  | [], _ :: _, _, h, _ => h.elim
  | _ :: _, [], _, h, _ => h.elim
theorem k_all {K : PySem.W.Frag} (hK : K = TheK.K) : OkA L (rAll K) bAll := by
  intro W s I B H Q S vs xs st r f
  unfold bAll at f
  split at f
  · rename_i x
    obtain ⟨v, rfl, rv⟩ := r.one
    cases q : lstOf S x with
    | none => rw [q] at f; exact f.elim
    | some ys =>
      rw [q] at f
      simp only [Option.bind] at f
      cases q2 : blsOf ys with
      | none => rw [q2] at f; exact f.elim
      | some ms =>
        rw [q2] at f
        obtain ⟨a, ws, rfl, h, hr⟩ := lst_items hK st rv q
        have e := blsOf_rps hr q2
        subst e
        exact ⟨a, _, rfl, h, f.here st rfl⟩
  · exact f.elim
section
variable {e : Expr} {es : List Expr} {ce co : CE} {ca : CA} {p pos : Pos}
theorem e_listB (hc : X.calm = true) (hm : X.mg "list" = none) (he : PE X e (rdE T W ce)) (hg : Gl X "list" := by rfl) (na : starEach [e] X.env = (false, eval e X.env) :: starEach [] X.env := by rfl) : PE X (.Call (.Name "list" p) [e] [] pos) (rdE T W (cListB ce)) := by
  refine pe_imp (pe_listOfB hc hg hm he na) ?_
  rintro s H Q ⟨H0, I, B, z, S, a, h⟩
  refine bind (rep := Rp) (rep2 := Rp) (Q := Q) a h fun J B' H' S' v x g a1 r1 f1 => ?_
  cases x with
  | byt b =>
    dsimp only at f1
    by_cases hl : b.size ≤ 16777216
    · rw [if_pos hl] at f1
      have r1 : v = .byt b := r1
      subst r1
      exact ⟨b, rfl, line_le hl, fun q hq => f1.newL a1.st (Rps.ints _) hq⟩
    · rw [if_neg hl] at f1; exact f1.elim
  | _ => exact f1.elim
theorem a_starC (hK : X.K = TheK.K) (he : PE X e (rdE T W ce)) (hr : PA X es (rdA T W ca)) (hs : starEach (.Starred e p :: es) X.env = (true, eval e X.env) :: starEach es X.env := by rfl) : PA X (.Starred e p :: es) (rdA T W (aStarC ce ca)) := by
  refine pa_imp (StX.pa_star he hr hs) ?_
  rintro s H Q ⟨H0, I, B, z, S, a, h⟩
  refine bind (rep := Rp) (rep2 := Rps) (Q := Q) a h fun J B' H' S' v x g a1 r1 f1 => ?_
  cases q : itemsOf S' x with
  | none => rw [q] at f1; exact f1.elim
  | some xs =>
    rw [q] at f1
    dsimp only at f1
    obtain ⟨b, vs, rfl, h2, h3⟩ := items hK a1.st r1 q
    refine ⟨b, vs, rfl, h2.symm, ?_⟩
    refine bind (rep := Rps) (rep2 := Rps) (Q := Q) a1 f1 fun J2 B2 H2 S2 us ys g2 a2 r2 f2 => ?_
    exact Fin.here (v := vs ++ us) f2 a2.st ((h3.gr g2).append r2)
end
theorem ip_mul {pins : List (Addr × Obj)} : PIp X .Mult fun x y H Q => ∃ i j, x = .int i ∧ y = .int j ∧ CMul i j ∧ Q (.int (i * j)) H := by
  intro pins s σ H x y v u Q I r1 r2 h
  obtain ⟨i, j, e1, e2, hc, q⟩ := h
  subst e1; subst e2
  obtain ⟨t, rfl⟩ := r1
  obtain ⟨t', rfl⟩ := r2
  exact imul_int ⟨.int _, H, I.tok _, ⟨_, rfl⟩, q⟩ hc.ok
section
variable {I0 : List Addr} {B0 H0 : Hp} {pos : Pos} {ce co : CE} {e : Expr}
theorem s_augM {i : Nat} {x : Str} {pos' : Pos} (hN : X.N.Nodup) (hi : X.N[i]? = some x) (hx : Loc X.env.scope x) (he : PE X e (rdE T W ce)) (hf : X.fn x = true ∨ X.env.scope.names.lookup x = some .local := by first | exact .inl rfl | exact .inr rfl | assumption) :
    PS X (.AugAssign (.Name x pos') .Mult e pos) (rdS T I0 B0 H0 W (sAugM i ce)) := by
  refine ps_imp (ps_aug hN hi hx he (ip_mul (pins := [])) hf) ?_
  rintro D s H ⟨I, B, z, S, g', a, h⟩
  unfold sAugM at h
  cases q : z[i]? with
  | none => rw [q] at h; exact h.elim
  | some y =>
    rw [q] at h
    cases y with
    | d x =>
      cases x with
      | int k =>
        dsimp only at h
        obtain ⟨o, e1, v, e2, r⟩ := a.sl.get q
        subst e2
        have r : v = .int k := r
        subst r
        refine ⟨_, e1, ?_⟩
        refine sdo (rep := Rp) g' a h fun J B' H' S' v x g0 g1 a1 r1 f1 => ?_
        cases x with
        | int b =>
          have r1 : v = .int b := r1
          subst r1
          dsimp only at f1
          by_cases hs : (smallI k || smallI b) = true
          · rw [if_pos hs] at f1
            refine ⟨k, b, rfl, rfl, ?_, f1 J B' H' _ g0 GB.rfl (a1.setD i (v := .int (k * b)) rfl)⟩
            simp only [smallI, Bool.or_eq_true, Bool.and_eq_true, decide_eq_true_eq] at hs
            exact hs
          · rw [if_neg hs] at f1; exact f1.elim
        | _ => exact f1.elim
      | _ => exact h.elim
    | _ => exact h.elim
def ioI (f : Int → Int → Int) : V → V → Hp → VK → Prop := fun x y H Q => ∃ i j, x = .int i ∧ y = .int j ∧ Q (.int (f i j)) H
theorem io_add : InOp X .Add (ioI fun i j => i + j) := in_add
theorem s_fldaug {C : Addr} {fl : Str} {o : Expr} {op : Operator} {f : Int → Int → Int} {tpos : Pos} (ha : PE X o (rdE T W co)) (hv : PE X e (rdE T W ce)) (ho : InOp X op (ioI f)) (c : Cls X.K C) (n : NoAttr X.K C fl) :
    PS X (.AugAssign (.Attribute o fl tpos) op e pos) (rdS T I0 B0 H0 W (sFldAugC C fl f co ce)) := by
  refine ps_imp (ps_fldaug ha hv ho) ?_
  rintro D s H ⟨I, B, z, S, g, a, h⟩
  unfold sFldAugC at h
  refine sdo (rep := Rp) g a h fun J B' H' S' v x g0 g1 a1 r1 f1 => ?_
  cases x with
  | ptr j =>
    dsimp only at f1
    cases q : S'[j]? with
    | none => simp only [q] at f1; exact f1.elim
    | some m =>
      cases m with
      | ins C' ns xs =>
        simp only [q] at f1
        cases q2 : (ns.zip xs).lookup fl with
        | none => rw [q2] at f1; exact f1.elim
        | some y =>
          rw [q2] at f1
          cases y with
          | int k =>
            dsimp only at f1
            by_cases hC : C' = C
            · rw [if_pos hC] at f1
              subst hC
              obtain ⟨b, o', rfl, hI, hb, dx, vs, rfl, hlen, rv⟩ := Rp.ptr a1.st r1 q
              obtain ⟨u, h1, h2⟩ := lookup_rps hlen rv q2
              have h2 : u = .int k := h2
              subst h2
              refine ⟨b, C', dx, _, .int k, rfl, hb, c, n, h1, ?_⟩
              refine sdo (rep := Rp) g0 a1 f1 fun J2 B2 H2 S2 u y g02 g2 a2 r2 f2 => ?_
              cases y with
              | int m =>
                have r2 : u = .int m := r2
                subst r2
                cases q3 : S2[j]? with
                | none => rw [q3] at f2; exact f2.elim
                | some mm =>
                  cases mm with
                  | ins C2 ns2 xs2 =>
                    rw [q3] at f2
                    dsimp only at f2
                    by_cases hC2 : C2 = C' ∧ ns2.length < 1000
                    · rw [if_pos hC2] at f2
                      obtain ⟨rfl, hl⟩ := hC2
                      obtain ⟨b2, o2, e2, hI2, hb2, dx2, vs2, rfl, hlen2, rv2⟩ := Rp.ptr a2.st (r1.gr g2) q3
                      cases e2
                      obtain ⟨p1, p2, p3⟩ := putN_rps (f := fl) (I := J2) (B := B2) (v := .int (f k m)) (d := .int (f k m)) rfl hlen2 rv2
                      have a3 := a2.write (u := .ins C2 dx2 (putF fl (.int (f k m)) (ns2.zip vs2))) (m := .ins C2 (putN fl (.int (f k m)) ns2 xs2).1 (putN fl (.int (f k m)) ns2 xs2).2) hI2 hb2 (fun ps z => by cases z) (fun q z => by cases z)
                        ⟨dx2, (putN fl (.int (f k m)) ns2 vs2).2, by rw [putF_zip hlen2, p1], by rw [← p1]; exact p2, p3⟩
                      refine ⟨k, m, rfl, rfl, dx2, _, hb2, by simp [List.length_zip]; omega, f2 J2 B2 _ s (g02.trans (gr_write (List.mem_of_getElem? hI2) (fun ps z => by cases z))) GB.rfl a3⟩
                    · rw [if_neg hC2] at f2; exact f2.elim
                  | lst _ => rw [q3] at f2; exact f2.elim
                  | dct _ _ => rw [q3] at f2; exact f2.elim
                  | lk _ _ => rw [q3] at f2; exact f2.elim
                  | fn _ => rw [q3] at f2; exact f2.elim
              | _ => exact f2.elim
            · rw [if_neg hC] at f1; exact f1.elim
          | _ => exact f1.elim
      | lst _ => simp only [q] at f1; exact f1.elim
      | dct _ _ => simp only [q] at f1; exact f1.elim
      | lk _ _ => simp only [q] at f1; exact f1.elim
      | fn _ => simp only [q] at f1; exact f1.elim
  | _ => exact f1.elim
end
end CL
set_option Elab.async false
set_option linter.all false
set_option maxRecDepth 100000
set_option maxHeartbeats 2000000
namespace CL
open PySem PySem.Spec PyProof.Rows L2
abbrev HdT := Value × Option Nat × (Addr → Value → Option Addr → TS)
/-- what the clauses wish of an exception of the body -/
def wMix (K : PySem.W.Frag) (Wout : WX) (D : Ends) : List HdT → WX
  | [] => Wout
  | (c, none, ts) :: r => fun cls d σ H => ∃ b, PySem.W.exmOne K cls c = some b ∧ (b = true → ∀ a, H a = none → ts a cls d D σ H) ∧ (b = false → wMix K Wout D r cls d σ H)
  | (c, some i, ts) :: r => fun cls d σ H => ∃ b, PySem.W.exmOne K cls c = some b ∧ (b = true → ∀ a, H a = none → ts a cls d { nx := fun σ' H' => D.nx (σ'.set i none) H', rt := D.rt, bk := fun σ' H' => D.bk (σ'.set i none) H', ct := fun σ' H' => D.ct (σ'.set i none) H' } (σ.set i (some (.ref a))) H) ∧
      (b = false → wMix K Wout D r cls d σ H)
inductive HdM (X : Cx) : List ExceptHandler → List HdT → Prop
  | nil : HdM X [] []
  | only {x : Str} {c : Value} {ts : Addr → Value → Option Addr → TS} {b₀ : Stmt} {suite : List Stmt} {np pos' : Pos} {hds : List ExceptHandler} {l : List HdT} (hc : Names X x c)
      (hsu : ∀ (a : Addr) (oe : Obj) (cls : Value) (d : Option Addr) (pn : List (Addr × Obj)), Zc cls d oe → (∃ vs, oe.data = .fields vs) → PSs (X.suite a ((a, oe) :: pn)) (b₀ :: suite) (ts a cls d)) (r : HdM X hds l) :
      HdM X (.ExceptHandler (some (.Name x np)) none (b₀ :: suite) pos' :: hds) ((c, none, ts) :: l)
  | as_ {x n : Str} {i : Nat} {c : Value} {ts : Addr → Value → Option Addr → TS} {b₀ : Stmt} {suite : List Stmt} {np pos' : Pos} {hds : List ExceptHandler} {l : List HdT} (hN : X.N.Nodup) (hi : X.N[i]? = some n) (hln : X.env.kindOf n = some .local) (hc : Names X x c)
      (hsu : ∀ (a : Addr) (oe : Obj) (cls : Value) (d : Option Addr) (pn : List (Addr × Obj)), Zc cls d oe → (∃ vs, oe.data = .fields vs) → PSs (X.suite a ((a, oe) :: pn)) (b₀ :: suite) (ts a cls d)) (r : HdM X hds l) :
      HdM X (.ExceptHandler (some (.Name x np)) (some n) (b₀ :: suite) pos' :: hds) ((c, some i, ts) :: l)
section
variable {X : Cx} {body : List Stmt} {h₀ : ExceptHandler} {hds : List ExceptHandler} {l : List HdT} {pos : Pos} {tb : WX → TS} {Wout : WX}
theorem ps_try_mix (hs : X.stack = X.env :: X.outer) (hf : X.env.frame = some X.env.locals) (tk : Takes X Wout)
    (hb : ∀ (W : WX) (pn : List (Addr × Obj)) (xe : Value → Shared → Prop), Takes (X.tr pn xe) W → PassesOwn (model X.prog X.w) X.A X.env xe → PSs (X.tr pn xe) body (tb W))
    (hh : HdM X (h₀ :: hds) l) : PS X (.Try body (h₀ :: hds) [] [] pos) (fun D σ H => tb (wMix X.K Wout D l) D σ H) := by
  refine ⟨fun pins s σ H D I h => ?_⟩
  have ok := I.ok
  have hfr : X.A.frames = some (X.env :: X.outer) := by rw [ok.frames, hs]
  refine wpAny_Try_except ?_
  refine wpAny_mono ((hb (wMix X.K Wout D l) (X.pn ++ pins) (fun e s₁ => wpAny (model X.prog X.w) X.A (noteFrame e X.env) (fun _ s₂ => wpAny (model X.prog X.w) X.A (setFlight e none) (fun _ s₃ =>
    wpAny (model X.prog X.w) X.A (handleBy e X.env (h₀ :: hds)) (SP X pins D) X.xe s₃) X.xe s₂) X.xe s₁) (fun u s' xx => ?_) PassesOwn.looking).run [] s σ H D (I.toTry _) h) (fun f s1 hsp => ?_) (fun e s1 he => he)
  · obtain ⟨a, B, sI, pins', σ', H', cls, d, rfl, J', nb, up, sky, na, os, ag, w⟩ := xx
    have J : Inv X pins σ' H' sI := J'.ofTry ok
    have sky' : Sky B (X.env :: X.outer) a (Zc cls d) X.env.locals s'.heap := by rw [← hs]; exact sky
    show wpAny (model X.prog X.w) X.A (noteFrame (.ref a) X.env) _ _ _
    refine Sky.land Zc.steady hfr hf sky' fun h3 fl3 up3 => ?_
    have J3 : Inv X pins σ' H' { s' with heap := h3 } := J.landed nb fl3.1 (up.trans up3) os ag
    obtain ⟨oe3, vs3, he3, hz3, hd3⟩ := fl3.there
    have notFr : ∀ {h : Heap} {o : Obj} {vs : Array Value}, h.FunFrames B (X.env :: X.outer) → h.get? a = some o → o.data = .fields vs → a ∉ frs (X.env :: X.outer) := fun {h o vs} ff e dd hm => by
      obtain ⟨_, o', e', hnf⟩ := ff.mem hm
      rw [e] at e'; cases e'
      exact hnf _ dd
    have nfr := notFr fl3.2.2.1 he3 hd3
    have nL : a ≠ X.env.locals := fun z => nfr (List.mem_filterMap.mpr ⟨X.env, List.mem_cons_self, by rw [hf, z]⟩)
    have nF : a ∉ X.fs := fun hm => by
      obtain ⟨e, he, q⟩ := List.mem_filterMap.mp hm
      exact nfr (List.mem_filterMap.mpr ⟨e, List.mem_cons_of_mem _ he, q⟩)
    have S3 := J3.suite he3 hd3 na nL nF
    have go : ∀ {hds' : List ExceptHandler} {l' : List HdT}, HdM X hds' l' → wMix X.K Wout D l' cls d σ' H' →
        wpAny (model X.prog X.w) X.A (handleBy (.ref a) X.env hds') (SP X pins D) X.xe { s' with heap := h3 } := by
      intro hds' l' hk
      induction hk with
      | nil =>
        intro w
        refine wpAny_handleBy_nil ?_
        obtain ⟨k1, k2, k3, oe, vs, T, oT, ts', he, hz, hd, h1, hr⟩ := id fl3
        unfold PySem.passOn
        refine wpAny_bind (wpAny_field he hd h1 ?_)
        rw [if_neg (show ¬ ((Value.ref T == Value.none) = true) from by simp)]
        have fin : wpAny (model X.prog X.w) X.A (setFlight (.ref a) X.env.frame) (fun _ s4 => wpAny (model X.prog X.w) X.A (throw (.ref a) : Sem Flow) (SP X pins D) X.xe s4) X.xe { s' with heap := h3 } := by
          rw [hf]
          refine HandSPX.setFlight_upZ fl3 fun h4 hh4 up4 => wpAny_throw (tk _ _ ?_)
          exact ⟨a, B, sI, pins, σ', H', cls, d, rfl, J, nb, (up.trans up3).trans up4, .inr (.inr (by rw [hs]; exact hh4)), na, os, ag, w⟩
        first
          | exact wpAny_bind (wpAny_pure (wpAny_bind fin))
          | exact wpAny_bind fin
      | @only x c ts b₀ suite np pos' hds2 l2 hc hsu r ih =>
        intro w
        obtain ⟨b, hb1, hyes, hno⟩ := w
        refine wpAny_handleBy_cons (codeAny_handlers_test ?_) (by intro q; cases q)
        have LT : PySem.W.Looks (model X.prog X.w) h3 (typeOf (.ref a)) cls := fun A Q E s k q => wpAny_typeOf_ref (k _ _ he3) (by rw [hz3.1]; exact q)
        have LM := PySem.W.exm_one (M := model X.prog X.w) (J3.kIn) LT hb1
        have test : ∀ {Q : Value → Shared → Prop} {E : Value → Shared → Prop}, Q c { s' with heap := h3 } → wpAny (model X.prog X.w) (X.A.mark (some (.ref a))) (eval (.Name x np) X.env) Q E { s' with heap := h3 } := fun {Q E} q => by
          obtain ⟨hg, hdbg, hm | ⟨hm, hv, hnn⟩⟩ := hc
          · exact ld_glob (X := X.suite a ((a, oe3) :: (X.pn ++ pins))) S3 hg hm q hdbg
          · exact ld_blt (X := X.suite a ((a, oe3) :: (X.pn ++ pins))) S3 hg hm hv q hnn hdbg
        refine test (LM.here ?_)
        cases b with
        | true =>
          refine codeAny_handlers_suite ?_
          refine HandSPX.lands_againZ fl3 fun h4 fl4 up4 => ?_
          have J4 : Inv X pins σ' H' { s' with heap := h4 } := J.landed nb fl4.1 ((up.trans up3).trans up4) os ag
          obtain ⟨oe4, vs4, he4, hz4, hd4⟩ := fl4.there
          have S4 := J4.suite he4 hd4 na nL nF
          refine wpAny_mono ((hsu a oe4 cls d (X.pn ++ pins) hz4 ⟨_, hd4⟩).run [] _ _ H' _ S4 (hyes rfl a na)) (fun f s6 hsp => ?_) (fun _ _ z => False.elim z)
          cases f with
          | next =>
            obtain ⟨σ6, H6, S6, q6⟩ := hsp
            exact ⟨_, _, S6.unsuite ok, q6⟩
          | brk =>
            obtain ⟨σ6, H6, S6, q6⟩ := hsp
            exact ⟨_, _, S6.unsuite ok, q6⟩
          | cont =>
            obtain ⟨σ6, H6, S6, q6⟩ := hsp
            exact ⟨_, _, S6.unsuite ok, q6⟩
          | ret u =>
            obtain ⟨v6, σ6, H6, S6, r6, q6⟩ := hsp
            exact ⟨_, _, _, S6.unsuite ok, r6, q6⟩
        | false =>
          show wpAny _ X.A (handleBy (.ref a) X.env hds2) _ _ _
          exact ih (hno rfl)
      | @as_ x n i c ts b₀ suite np pos' hds2 l2 hN hi hln hc hsu r ih =>
        intro w
        obtain ⟨b, hb1, hyes, hno⟩ := w
        have hloc : Loc X.env.scope n := .inl hln
        refine wpAny_handleBy_cons (codeAny_handlers_test ?_) (by intro q; cases q)
        have LT : PySem.W.Looks (model X.prog X.w) h3 (typeOf (.ref a)) cls := fun A Q E s k q => wpAny_typeOf_ref (k _ _ he3) (by rw [hz3.1]; exact q)
        have LM := PySem.W.exm_one (M := model X.prog X.w) (J3.kIn) LT hb1
        have test : ∀ {Q : Value → Shared → Prop} {E : Value → Shared → Prop}, Q c { s' with heap := h3 } → wpAny (model X.prog X.w) (X.A.mark (some (.ref a))) (eval (.Name x np) X.env) Q E { s' with heap := h3 } := fun {Q E} q => by
          obtain ⟨hg, hdbg, hm | ⟨hm, hv, hnn⟩⟩ := hc
          · exact ld_glob (X := X.suite a ((a, oe3) :: (X.pn ++ pins))) S3 hg hm q hdbg
          · exact ld_blt (X := X.suite a ((a, oe3) :: (X.pn ++ pins))) S3 hg hm hv q hnn hdbg
        refine test (LM.here ?_)
        cases b with
        | true =>
          refine codeAny_handlers_suite_as ?_
          refine HandSPX.lands_againZ fl3 fun h4 fl4 up4 => ?_
          have J4 : Inv X pins σ' H' { s' with heap := h4 } := J.landed nb fl4.1 ((up.trans up3).trans up4) os ag
          obtain ⟨oe4, vs4, he4, hz4, hd4⟩ := fl4.there
          have S4 := J4.suite he4 hd4 na nL nF
          refine store_ok (X := X.suite a ((a, oe4) :: (X.pn ++ pins))) (v := .ref a) S4 hN hi hloc rfl (fun s5 S5 => ?_) (.inr hln)
          refine wpAny_mono ((hsu a oe4 cls d (X.pn ++ pins) hz4 ⟨_, hd4⟩).run [] s5 _ H' _ S5 (hyes rfl a na)) (fun f s6 hsp => ?_) (fun _ _ z => False.elim z)
          have end_ : ∀ {σ6 : L2.St} {H6 : Hp} {Q : Shared → Prop}, Inv (X.suite a ((a, oe4) :: (X.pn ++ pins))) [] σ6 H6 s6 → (∀ s7, Inv X pins (σ6.set i none) H6 s7 → Q s7) →
              wpAny (model X.prog X.w) X.A (do bindName X.env n .none; unbindBehindTheSuite X.env n pos') (fun _ s7 => Q s7) X.xe s6 := fun {σ6 H6 Q} S6 hq => gone_ok (S6.unsuite ok) hN hi hln hq
          cases f with
          | next =>
            obtain ⟨σ6, H6, S6, q6⟩ := hsp
            exact end_ S6 fun s7 J7 => ⟨_, _, J7, q6⟩
          | brk =>
            obtain ⟨σ6, H6, S6, q6⟩ := hsp
            exact end_ S6 fun s7 J7 => ⟨_, _, J7, q6⟩
          | cont =>
            obtain ⟨σ6, H6, S6, q6⟩ := hsp
            exact end_ S6 fun s7 J7 => ⟨_, _, J7, q6⟩
          | ret u =>
            obtain ⟨v6, σ6, H6, S6, r6, q6⟩ := hsp
            exact end_ S6 fun s7 J7 => ⟨_, _, _, J7, r6, q6⟩
        | false =>
          show wpAny _ X.A (handleBy (.ref a) X.env hds2) _ _ _
          exact ih (hno rfl)
    exact go hh w
  · cases f with
    | next =>
      obtain ⟨σ', H', J', q⟩ := hsp
      exact wpAny_execs_nil ⟨σ', H', J'.ofTry ok, q⟩
    | brk =>
      obtain ⟨σ', H', J', q⟩ := hsp
      exact ⟨σ', H', J'.ofTry ok, q⟩
    | cont =>
      obtain ⟨σ', H', J', q⟩ := hsp
      exact ⟨σ', H', J'.ofTry ok, q⟩
    | ret u =>
      obtain ⟨v, σ', H', J', r, q⟩ := hsp
      exact ⟨v, σ', H', J'.ofTry ok, r, q⟩
end
/-- the end of a suite without a name -/
def unz : O → O
  | .nx z S => if noX z then .nx z S else .bad
  | .bk z S => if noX z then .bk z S else .bad
  | .ct z S => if noX z then .ct z S else .bad
  | .rt d S => .rt d S
  | .exc _ _ _ => .bad
  | .bad => .bad
abbrev Hd := (Addr → Option Bool) × Option Nat × CS
def hdGo (x : Exn) (z : Sl) (S : Store) : List Hd → O
  | [] => .exc x z S
  | (exm, none, cs) :: r => match exm x.cls with
    | some true => if noX z then unz (cs z S) else .bad
    | some false => hdGo x z S r
    | none => .bad
  | (exm, some i, cs) :: r => match exm x.cls with
    | some true => unx i (cs (z.set i (.x x)) S)
    | some false => hdGo x z S r
    | none => .bad
def sTryM (cb : CS) (hs : List Hd) : CS := fun z S => match cb z S with
  | .exc x z' S' => hdGo x z' S' hs
  | o => o
variable [TheK]
variable {L : Tl} {F : Option (Addr × List Addr × Hp × Hp)} {T : Pm} {X : Cx} {W : WX}
section
variable {H0 : Hp} {I : List Addr} {B H : Hp} {s : L2.St} {z : Sl} {S : Store} {i : Nat}
/-- a suite without a name is entered -/
theorem At.inX {a : Addr} {c : Value} {d : Option Addr} {e : Exn} (h : At ⟨L, none, F⟩ H0 I B H s z S) (hx : noX z = true) : At ⟨L, some (a, c, d), F⟩ H0 I B H s z S := h.swap rfl rfl fun j e q => noX_at hx q
theorem At.outX {a : Addr} {c : Value} {d : Option Addr} (h : At ⟨L, some (a, c, d), F⟩ H0 I B H s z S) (hx : noX z = true) : At ⟨L, none, F⟩ H0 I B H s z S := h.swap rfl rfl fun j e q => noX_at hx q
end
section
variable {body : List Stmt} {h₀ : ExceptHandler} {hds : List ExceptHandler} {pos : Pos} {cb cs : CS} {I0 : List Addr} {B0 H0 : Hp}
/-- the clauses are read -/
inductive HdR (X : Cx) (L : Tl) (F : Option (Addr × List Addr × Hp × Hp)) (I0 : List Addr) (B0 H0 : Hp) : List ExceptHandler → List Hd → Prop
  | nil : HdR X L F I0 B0 H0 [] []
  | only {x : Str} {c : Value} {exm : Addr → Option Bool} {cs : CS} {b₀ : Stmt} {suite : List Stmt} {np pos' : Pos} {hds : List ExceptHandler} {l : List Hd} (hc : Names X x c) (hexm : ∀ D b, exm D = some b → PySem.W.exmOne X.K (.ref D) c = some b)
      (hsu : ∀ (a : Addr) (oe : Obj) (cls : Value) (d : Option Addr) (pn : List (Addr × Obj)), Zc cls d oe → (∃ vs, oe.data = .fields vs) → PSs (X.suite a ((a, oe) :: pn)) (b₀ :: suite) (rdS ⟨L, some (a, cls, d), F⟩ I0 B0 H0 wNo cs)) (r : HdR X L F I0 B0 H0 hds l) :
      HdR X L F I0 B0 H0 (.ExceptHandler (some (.Name x np)) none (b₀ :: suite) pos' :: hds) ((exm, none, cs) :: l)
  | as_ {x n : Str} {i : Nat} {c : Value} {exm : Addr → Option Bool} {cs : CS} {b₀ : Stmt} {suite : List Stmt} {np pos' : Pos} {hds : List ExceptHandler} {l : List Hd} (hN : X.N.Nodup) (hi : X.N[i]? = some n) (hln : X.env.kindOf n = some .local) (hc : Names X x c) (hexm : ∀ D b, exm D = some b → PySem.W.exmOne X.K (.ref D) c = some b)
      (hsu : ∀ (a : Addr) (oe : Obj) (cls : Value) (d : Option Addr) (pn : List (Addr × Obj)), Zc cls d oe → (∃ vs, oe.data = .fields vs) → PSs (X.suite a ((a, oe) :: pn)) (b₀ :: suite) (rdS ⟨L, some (a, cls, d), F⟩ I0 B0 H0 wNo cs)) (r : HdR X L F I0 B0 H0 hds l) :
      HdR X L F I0 B0 H0 (.ExceptHandler (some (.Name x np)) (some n) (b₀ :: suite) pos' :: hds) ((exm, some i, cs) :: l)
theorem HdR.low {hds : List ExceptHandler} {l : List Hd} (h : HdR X L F I0 B0 H0 hds l) : ∃ l2, HdM X hds l2 ∧ ∀ {D : Ends} {W : WX} {I J : List Addr} {B B' H' : Hp} {s' : L2.St} {z' : Sl} {S' : Store} {x : Exn} {c' : Value} {dd : Option Addr},
    GB I B J B' → FinS ⟨L, none, F⟩ I0 B0 H0 W J B' D (hdGo x z' S' l) → Gr I0 B0 H0 J B' H' → At ⟨L, none, F⟩ H0 J B' H' s' z' S' → RpX J B' c' dd x → wMix X.K W D l2 c' dd s' H' := by
  induction h with
  | nil => exact ⟨[], .nil, fun gb f g a rx => f _ _ _ _ _ _ g GB.rfl a rx⟩
  | @only x c exm cs b₀ suite np pos' hds l hc hexm hsu r ih =>
    obtain ⟨l2, h2, k2⟩ := ih
    refine ⟨_, .only (ts := fun a cls d => rdS ⟨L, some (a, cls, d), F⟩ I0 B0 H0 wNo cs) hc hsu h2, ?_⟩
    intro D W I J B B' H' s' z' S' x c' dd gb f g' a' rx
    unfold hdGo at f
    cases q1 : exm x.cls with
    | none => rw [q1] at f; exact f.elim
    | some b =>
      rw [q1] at f
      refine ⟨b, by rw [rx.1]; exact hexm _ _ q1, fun hb a1 _ => ?_, fun hb => ?_⟩
      · subst hb
        dsimp only at f
        by_cases hx : noX z' = true
        · rw [if_pos hx] at f
          refine ⟨J, B', z', S', g', a'.inX (e := x) hx, ?_⟩
          cases q2 : cs z' S' with
          | nx z2 S2 =>
            rw [q2] at f
            simp only [unz] at f
            split at f
            · rename_i hx
              exact fun J2 B2 H2 s2 g2 gb2 a2 => f J2 B2 H2 _ g2 gb2 (a2.outX hx)
            · exact f.elim
          | bk z2 S2 =>
            rw [q2] at f
            simp only [unz] at f
            split at f
            · rename_i hx
              exact fun J2 B2 H2 s2 g2 gb2 a2 => f J2 B2 H2 _ g2 gb2 (a2.outX hx)
            · exact f.elim
          | ct z2 S2 =>
            rw [q2] at f
            simp only [unz] at f
            split at f
            · rename_i hx
              exact fun J2 B2 H2 s2 g2 gb2 a2 => f J2 B2 H2 _ g2 gb2 (a2.outX hx)
            · exact f.elim
          | rt d S2 =>
            rw [q2] at f
            exact fun J2 B2 H2 v g2 gb2 st r => f J2 B2 H2 v g2 gb2 st r
          | exc _ _ _ => rw [q2] at f; exact f.elim
          | bad => rw [q2] at f; exact f.elim
        · rw [if_neg hx] at f; exact f.elim
      · subst hb
        exact k2 gb f g' a' rx
  | @as_ x n i c exm cs b₀ suite np pos' hds l hN hi hln hc hexm hsu r ih =>
    obtain ⟨l2, h2, k2⟩ := ih
    refine ⟨_, .as_ (ts := fun a cls d => rdS ⟨L, some (a, cls, d), F⟩ I0 B0 H0 wNo cs) hN hi hln hc hsu h2, ?_⟩
    intro D W I J B B' H' s' z' S' x c' dd gb f g' a' rx
    unfold hdGo at f
    cases q1 : exm x.cls with
    | none => rw [q1] at f; exact f.elim
    | some b =>
      rw [q1] at f
      refine ⟨b, by rw [rx.1]; exact hexm _ _ q1, fun hb a1 _ => ?_, fun hb => ?_⟩
      · subst hb
        dsimp only at f
        refine ⟨J, B', z'.set i (.x x), S', g', a'.setX (a := a1) i rx, ?_⟩
        have back : ∀ {J2 : List Addr} {B2 H2 : Hp} {s2 : L2.St} {z2 : Sl} {S2 : Store}, noX (z2.set i .u) = true → At ⟨L, some (a1, c', dd), F⟩ H0 J2 B2 H2 s2 z2 S2 → At ⟨L, none, F⟩ H0 J2 B2 H2 (s2.set i none) (z2.set i .u) S2 := fun {J2 B2 H2 s2 z2 S2} hx a2 =>
          (a2.setU i none).swap rfl rfl fun j e q => noX_at hx q
        cases q2 : cs (z'.set i (.x x)) S' with
        | nx z2 S2 =>
          rw [q2] at f
          simp only [unx] at f
          split at f
          · rename_i hx
            exact fun J2 B2 H2 s2 g2 gb2 a2 => f J2 B2 H2 _ g2 gb2 (back hx a2)
          · exact f.elim
        | bk z2 S2 =>
          rw [q2] at f
          simp only [unx] at f
          split at f
          · rename_i hx
            exact fun J2 B2 H2 s2 g2 gb2 a2 => f J2 B2 H2 _ g2 gb2 (back hx a2)
          · exact f.elim
        | ct z2 S2 =>
          rw [q2] at f
          simp only [unx] at f
          split at f
          · rename_i hx
            exact fun J2 B2 H2 s2 g2 gb2 a2 => f J2 B2 H2 _ g2 gb2 (back hx a2)
          · exact f.elim
        | rt d S2 =>
          rw [q2] at f
          exact fun J2 B2 H2 v g2 gb2 st r => f J2 B2 H2 v g2 gb2 st r
        | exc _ _ _ => rw [q2] at f; exact f.elim
        | bad => rw [q2] at f; exact f.elim
      · subst hb
        exact k2 gb f g' a' rx
theorem s_tryM {l : List Hd} (hs : X.stack = X.env :: X.outer) (hf : X.env.frame = some X.env.locals) (tk : Takes X W)
    (hb : ∀ (W : WX) (pn : List (Addr × Obj)) (xe : Value → Shared → Prop), Takes (X.tr pn xe) W → PassesOwn (model X.prog X.w) X.A X.env xe → PSs (X.tr pn xe) body (rdS ⟨L, none, F⟩ I0 B0 H0 W cb))
    (hh : HdR X L F I0 B0 H0 (h₀ :: hds) l) :
    PS X (.Try body (h₀ :: hds) [] [] pos) (rdS ⟨L, none, F⟩ I0 B0 H0 W (sTryM cb l)) := by
  obtain ⟨l2, h2, k2⟩ := hh.low
  refine ps_imp (ps_try_mix (tb := fun W => rdS ⟨L, none, F⟩ I0 B0 H0 W cb) hs hf tk hb h2) ?_
  rintro D s H ⟨I, B, z, S, g, a, f⟩
  refine ⟨I, B, z, S, g, a, ?_⟩
  unfold sTryM at f
  cases q : cb z S with
  | nx z' S' => rw [q] at f; exact f
  | bk z' S' => rw [q] at f; exact f
  | ct z' S' => rw [q] at f; exact f
  | rt d S' => rw [q] at f; exact f
  | bad => rw [q] at f; exact f
  | exc x z' S' =>
    rw [q] at f
    dsimp only at f
    intro J B' H' s' c' dd g' gb a' rx
    exact k2 (I := I) (B := B) gb (f.gb gb) g' a' rx
end
end CL
set_option Elab.async false
set_option linter.all false
set_option maxRecDepth 100000
set_option maxHeartbeats 2000000
namespace CL
open PySem PySem.Spec PyProof.Rows L2
def oEqB (neg : Bool) : D → D → Store → R D
  | .byt a, .byt b, S => .ok (.bl (if neg then !decide (a = b) else decide (a = b))) S
  | _, _, _ => .bad
variable [TheK]
variable {L : Tl}
theorem dec_bytV {a b : Array UInt8} : decide (V.byt a = V.byt b) = decide (a = b) := by
  by_cases h : a = b
  · subst h; simp
  · simp [h]
theorem k_neB : Ok2 L rNe (oEqB true) := by
  intro W s I B H Q S v u x y st rx ry f
  unfold oEqB at f
  split at f
  · cases rx; cases ry
    exact ⟨rfl, f.here st (by rw [dec_bytV]; rfl)⟩
  · exact f.elim
end CL
set_option Elab.async false
set_option linter.all false
set_option maxRecDepth 100000
set_option maxHeartbeats 2000000
namespace CL
open PySem PySem.Spec PyProof.Rows L2
def bIsT (t : String) (kit : Addr → Option Bool) : List D → Store → R D := fun vs S => match vs with
  | [x, .ty t'] => if t' = t then match classOf S x with
    | some (C', _) => match kit C' with
      | some b => .ok (.bl b) S
      | none => .bad
    | none => bIsi [x, .ty t'] S
    else .bad
  | _ => .bad
variable [TheK]
variable {L : Tl}
theorem k_isT {K : PySem.W.Frag} (hK : K = TheK.K) {t : String} {kit : Addr → Option Bool} (hk : ∀ D b, kit D = some b → ClsI K D ∧ PySem.W.kitOne K (.ref D) (.type t) = some b) : OkA L (fun xs H Q => rIsi K xs H Q ∨ rIsiT K xs H Q) (bIsT t kit) := by
  intro W s I B H Q S vs xs st r f
  unfold bIsT at f
  split at f
  · rename_i x t'
    by_cases hc : t' = t
    · rw [if_pos hc] at f
      subst hc
      cases q1 : classOf S x with
      | none =>
        rw [q1] at f
        exact k_isi hK st r f
      | some pq =>
        obtain ⟨C', ns⟩ := pq
        rw [q1] at f
        dsimp only at f
        cases q2 : kit C' with
        | none => rw [q2] at f; exact f.elim
        | some b =>
          rw [q2] at f
          obtain ⟨v, w, rfl, r1, r2⟩ := r.two
          cases r2
          obtain ⟨a, dx, fs, zs, rfl, ha, _⟩ := insOf st r1 q1
          obtain ⟨k1, k2⟩ := hk _ _ q2
          exact .inl ⟨.ref a, .ty t', .ref C', .type t', b, rfl, .ty t', .base (.ins ha k1.cl k1.ha k1.hn k1.htk k1.hm), k2, f.here st rfl⟩
    · rw [if_neg hc] at f; exact f.elim
  · exact f.elim
end CL
set_option Elab.async false
set_option linter.all false
set_option maxRecDepth 100000
set_option maxHeartbeats 2000000
namespace HD
open PySem PySem.Spec PyProof.Rows L2
/-- as walk_tabs; the written part is told by the Hook -/
theorem walk_tabsE {l : PySem.W.OpenLaw} {n k : Nat} {q : Program} {loose : List Str} {XP : (Str → Option Value) → Heap → Prop} {YP : World → Heap → Prop} {d : DefRec} {CX : World → CXT} {x : Str} (xs : List Str)
    (hn : l.most = some n) (hn2 : n ≤ sizeLine) (hdf : d.params.defaults = []) (hr : Room k callerA) (hrec : (xs.all fun y => (recsOf q).any fun e => e.name == y) = true)
    (F : ∀ (w : World) (mg : Str → Option Value) (fa : Addr) (h : Heap), YP w h → h.Ns mainGlobals mg → mg d.name = some (.ref fa) → ∃ K : Fr, K.In h ∧ ((∀ y ∈ xs, ∀ f, mg y = some (.ref f) → LamX.OwnTab K f h) → LamX.LawAtS l w K (CX w) k n x mg fa h))
    (hCX : ∀ (w : World) (H : Hp) (s : Shared) (e : Value) (s' : Shared), CX w [] H s (fun _ _ _ => False) e s' → False) :
    PySem.W.WalkO q loose XP YP l.row.toRowW d [] (fun f vs => PySem.call f vs) := by
  refine Att.attach_callB hn hdf ?_
  intro w s0 s1 mg mb fa o pm cd doc a vs ns G Y ho hd hcd hmg hobj hints hlen hbits hg
  obtain ⟨K, KX, F⟩ := F w mg fa _ Y G.T.g hmg
  have own : ∀ y ∈ xs, ∀ f, mg y = some (.ref f) → LamX.OwnTab K f s1.heap := by
    intro y hy f hf c P o2 fd2 e dd vs2 sl k1 k2 k3 k4 k5
    obtain ⟨r, hm, en⟩ := List.any_eq_true.mp (List.all_eq_true.mp hrec y hy)
    have en : r.name = y := beq_iff_eq.mp en
    obtain ⟨b, ob, fdb, cb, Pb, q1, q2, q3, q4, q5, ⟨⟨oc, vc, q6, _, q7, q8⟩, q9⟩⟩ := G.T.tab r hm
    rw [en] at q1
    cases hf.symm.trans q1
    cases (KX _ _ k1).symm.trans q2
    cases k2.symm.trans q3
    cases k3.symm.trans q4
    cases (KX _ _ k4).symm.trans q6
    cases q7
    cases k5.symm.trans q8
    exact q9
  obtain ⟨fd, cs, sp, hT, nT, C, hb, hsp, hF⟩ := F own
  refine LamX.law_callTs KX G.T.g G.T.b G.T.builtins G.T.nolimit hg hT nT C G.T.bmain hobj hints (Nat.le_trans hlen hn2) hr hF hb ?_ ?_
  · intro H hH hS
    exact hsp H a ns hlen hbits hH hS
  · intro H e s'
    exact hCX w H s1 e s'
end HD
set_option Elab.async false
set_option linter.all false
set_option maxRecDepth 100000
set_option maxHeartbeats 4000000
namespace Law
open PySem PySem.Spec PyProof.Rows L2 CL
variable [TheK]
def top (i : Nat) : Stmt := PySem.Challenge.pw_wornbridges_k46_bytes_of_towns.main.body.getD i (.Pass ⟨0, 0, 0, 0⟩)
/-- where things stand -/
structure Ad where
  f_law_start : Addr
  d_law_start : FuncData
  f_law_drawn : Addr
  d_law_drawn : FuncData
  f_law_bridges : Addr
  d_law_bridges : FuncData
  f_law_groups : Addr
  d_law_groups : FuncData
  f_law_body : Addr
  d_law_body : FuncData
  f_Town_is_bridge : Addr
  d_Town_is_bridge : FuncData
  f_Town__init : Addr
  d_Town__init : FuncData
  f_Town_bridges : Addr
  d_Town_bridges : FuncData
  f_Town_place_count : Addr
  d_Town_place_count : FuncData
  f_groups_of : Addr
  d_groups_of : FuncData
  f_checksum : Addr
  d_checksum : FuncData
  f_encode_town : Addr
  d_encode_town : FuncData
  f_unpack_bytes : Addr
  d_unpack_bytes : FuncData
  f_law_checksum : Addr
  d_law_checksum : FuncData
  f_law_damaged : Addr
  d_law_damaged : FuncData
  f_pack_bytes : Addr
  d_pack_bytes : FuncData
  f_law_get : Addr
  d_law_get : FuncData
  f_law_fault : Addr
  d_law_fault : FuncData
  f_law_read : Addr
  d_law_read : FuncData
  f_law_outcome : Addr
  d_law_outcome : FuncData
  f_TownReader_fail : Addr
  d_TownReader_fail : FuncData
  f_TownReader_read : Addr
  d_TownReader_read : FuncData
  f_TownReader_read_life : Addr
  d_TownReader_read_life : FuncData
  f_TownReader_read_bridge : Addr
  d_TownReader_read_bridge : FuncData
  f_TownReader_read_town : Addr
  d_TownReader_read_town : FuncData
  f_TownReader__init : Addr
  d_TownReader__init : FuncData
  f_decode_town : Addr
  d_decode_town : FuncData
  f_law : Addr
  d_law : FuncData
  C_Town : Addr
  C_InvalidTown : Addr
  C_InvalidCount : Addr
  C_InvalidData : Addr
  C_TownReader : Addr
  i_InvalidTown : Addr
  j_InvalidTown : FuncData
  i_InvalidData : Addr
  j_InvalidData : FuncData
  mc : Value
  lc_law : Addr
  lP_law : Addr
  t_Town_MAX_PLACES : Value
  t_Town_MAX_LIFE : Value
  t_Town_MAX_BRIDGES : Value
  p_Town_is_bridge : Addr
  a_Town_bridges : Addr
  a_Town_place_count : Addr
  t_MAX_LENGTH : Tok
  t_HEAD : Tok
  t_GROUP : Tok
  t_START : Tok
  t_FACTOR : Tok
  t_MODULUS : Tok
  t_BYTE : Tok
/-- what the top has made -/
structure Fx (mg : Str → Option Value) (a : Ad) : Prop where
  F_law_start : Fun TheK.K ("_law_start" : Str) ("_law_start" : Str) (top 24) a.f_law_start a.d_law_start
  b_law_start : L2.Binds TheK.K a.d_law_start [("_law_script" : Str)] []
  m_law_start : mg ("_law_start" : Str) = some (.ref a.f_law_start)
  F_law_drawn : Fun TheK.K ("_law_drawn" : Str) ("_law_drawn" : Str) (top 25) a.f_law_drawn a.d_law_drawn
  b_law_drawn : L2.Binds TheK.K a.d_law_drawn [("_law_state" : Str), ("_law_count" : Str)] []
  m_law_drawn : mg ("_law_drawn" : Str) = some (.ref a.f_law_drawn)
  F_law_bridges : Fun TheK.K ("_law_bridges" : Str) ("_law_bridges" : Str) (top 28) a.f_law_bridges a.d_law_bridges
  b_law_bridges : L2.Binds TheK.K a.d_law_bridges [("_law_state" : Str), ("_law_count" : Str), ("_law_most" : Str), ("_law_high" : Str)] []
  m_law_bridges : mg ("_law_bridges" : Str) = some (.ref a.f_law_bridges)
  F_law_groups : Fun TheK.K ("_law_groups" : Str) ("_law_groups" : Str) (top 30) a.f_law_groups a.d_law_groups
  b_law_groups : L2.Binds TheK.K a.d_law_groups [("_law_number" : Str)] []
  m_law_groups : mg ("_law_groups" : Str) = some (.ref a.f_law_groups)
  F_law_body : Fun TheK.K ("_law_body" : Str) ("_law_body" : Str) (top 31) a.f_law_body a.d_law_body
  b_law_body : L2.Binds TheK.K a.d_law_body [("_law_count" : Str), ("_law_bridges_here" : Str)] []
  m_law_body : mg ("_law_body" : Str) = some (.ref a.f_law_body)
  F_Town_is_bridge : Fun TheK.K ("is_bridge" : Str) ("Town.is_bridge" : Str) (inClass (top 8) 4) a.f_Town_is_bridge a.d_Town_is_bridge
  b_Town_is_bridge : L2.Binds TheK.K a.d_Town_is_bridge [("count" : Str), ("bridge" : Str)] []
  F_Town__init : Fun TheK.K ("__init__" : Str) ("Town.__init__" : Str) (inClass (top 8) 3) a.f_Town__init a.d_Town__init
  b_Town__init : L2.Binds TheK.K a.d_Town__init [("self" : Str), ("count" : Str), ("bridges" : Str)] []
  F_Town_bridges : Fun TheK.K ("bridges" : Str) ("Town.bridges" : Str) (inClass (top 8) 7) a.f_Town_bridges a.d_Town_bridges
  b_Town_bridges : L2.Binds TheK.K a.d_Town_bridges [("self" : Str)] []
  F_Town_place_count : Fun TheK.K ("place_count" : Str) ("Town.place_count" : Str) (inClass (top 8) 6) a.f_Town_place_count a.d_Town_place_count
  b_Town_place_count : L2.Binds TheK.K a.d_Town_place_count [("self" : Str)] []
  F_groups_of : Fun TheK.K ("groups_of" : Str) ("groups_of" : Str) (top 19) a.f_groups_of a.d_groups_of
  b_groups_of : L2.Binds TheK.K a.d_groups_of [("number" : Str)] []
  m_groups_of : mg ("groups_of" : Str) = some (.ref a.f_groups_of)
  F_checksum : Fun TheK.K ("checksum" : Str) ("checksum" : Str) (top 18) a.f_checksum a.d_checksum
  b_checksum : L2.Binds TheK.K a.d_checksum [("octets" : Str)] []
  m_checksum : mg ("checksum" : Str) = some (.ref a.f_checksum)
  F_encode_town : Fun TheK.K ("encode_town" : Str) ("encode_town" : Str) (top 20) a.f_encode_town a.d_encode_town
  b_encode_town : L2.Binds TheK.K a.d_encode_town [("town" : Str)] []
  m_encode_town : mg ("encode_town" : Str) = some (.ref a.f_encode_town)
  F_unpack_bytes : Fun TheK.K ("unpack_bytes" : Str) ("unpack_bytes" : Str) (top 17) a.f_unpack_bytes a.d_unpack_bytes
  b_unpack_bytes : L2.Binds TheK.K a.d_unpack_bytes [("data" : Str)] []
  m_unpack_bytes : mg ("unpack_bytes" : Str) = some (.ref a.f_unpack_bytes)
  F_law_checksum : Fun TheK.K ("_law_checksum" : Str) ("_law_checksum" : Str) (top 29) a.f_law_checksum a.d_law_checksum
  b_law_checksum : L2.Binds TheK.K a.d_law_checksum [("_law_octets" : Str)] []
  m_law_checksum : mg ("_law_checksum" : Str) = some (.ref a.f_law_checksum)
  F_law_damaged : Fun TheK.K ("_law_damaged" : Str) ("_law_damaged" : Str) (top 35) a.f_law_damaged a.d_law_damaged
  b_law_damaged : L2.Binds TheK.K a.d_law_damaged [("_law_state" : Str), ("_law_body_here" : Str)] []
  m_law_damaged : mg ("_law_damaged" : Str) = some (.ref a.f_law_damaged)
  F_pack_bytes : Fun TheK.K ("pack_bytes" : Str) ("pack_bytes" : Str) (top 16) a.f_pack_bytes a.d_pack_bytes
  b_pack_bytes : L2.Binds TheK.K a.d_pack_bytes [("numbers" : Str)] []
  m_pack_bytes : mg ("pack_bytes" : Str) = some (.ref a.f_pack_bytes)
  F_law_get : Fun TheK.K ("_law_get" : Str) ("_law_get" : Str) (top 32) a.f_law_get a.d_law_get
  b_law_get : L2.Binds TheK.K a.d_law_get [("_law_w" : Str), ("_law_low" : Str), ("_law_high" : Str)] []
  m_law_get : mg ("_law_get" : Str) = some (.ref a.f_law_get)
  F_law_fault : Fun TheK.K ("_law_fault" : Str) ("_law_fault" : Str) (top 33) a.f_law_fault a.d_law_fault
  b_law_fault : L2.Binds TheK.K a.d_law_fault [("_law_w" : Str), ("_law_wrong" : Str), ("_law_start_here" : Str)] []
  m_law_fault : mg ("_law_fault" : Str) = some (.ref a.f_law_fault)
  F_law_read : Fun TheK.K ("_law_read" : Str) ("_law_read" : Str) (top 34) a.f_law_read a.d_law_read
  b_law_read : L2.Binds TheK.K a.d_law_read [("_law_w" : Str)] []
  m_law_read : mg ("_law_read" : Str) = some (.ref a.f_law_read)
  F_law_outcome : Fun TheK.K ("_law_outcome" : Str) ("_law_outcome" : Str) (top 27) a.f_law_outcome a.d_law_outcome
  b_law_outcome : L2.Binds TheK.K a.d_law_outcome [("_law_work" : Str)] []
  m_law_outcome : mg ("_law_outcome" : Str) = some (.ref a.f_law_outcome)
  F_TownReader_fail : Fun TheK.K ("fail" : Str) ("TownReader.fail" : Str) (inClass (top 21) 1) a.f_TownReader_fail a.d_TownReader_fail
  b_TownReader_fail : L2.Binds TheK.K a.d_TownReader_fail [("self" : Str), ("offset" : Str)] []
  F_TownReader_read : Fun TheK.K ("read" : Str) ("TownReader.read" : Str) (inClass (top 21) 2) a.f_TownReader_read a.d_TownReader_read
  b_TownReader_read : L2.Binds TheK.K a.d_TownReader_read [("self" : Str), ("smallest" : Str), ("largest" : Str)] []
  F_TownReader_read_life : Fun TheK.K ("read_life" : Str) ("TownReader.read_life" : Str) (inClass (top 21) 3) a.f_TownReader_read_life a.d_TownReader_read_life
  b_TownReader_read_life : L2.Binds TheK.K a.d_TownReader_read_life [("self" : Str)] []
  F_TownReader_read_bridge : Fun TheK.K ("read_bridge" : Str) ("TownReader.read_bridge" : Str) (inClass (top 21) 4) a.f_TownReader_read_bridge a.d_TownReader_read_bridge
  b_TownReader_read_bridge : L2.Binds TheK.K a.d_TownReader_read_bridge [("self" : Str), ("count" : Str)] []
  F_TownReader_read_town : Fun TheK.K ("read_town" : Str) ("TownReader.read_town" : Str) (inClass (top 21) 5) a.f_TownReader_read_town a.d_TownReader_read_town
  b_TownReader_read_town : L2.Binds TheK.K a.d_TownReader_read_town [("self" : Str)] []
  F_TownReader__init : Fun TheK.K ("__init__" : Str) ("TownReader.__init__" : Str) (inClass (top 21) 0) a.f_TownReader__init a.d_TownReader__init
  b_TownReader__init : L2.Binds TheK.K a.d_TownReader__init [("self" : Str), ("data" : Str)] []
  F_decode_town : Fun TheK.K ("decode_town" : Str) ("decode_town" : Str) (top 22) a.f_decode_town a.d_decode_town
  b_decode_town : L2.Binds TheK.K a.d_decode_town [("data" : Str)] []
  m_decode_town : mg ("decode_town" : Str) = some (.ref a.f_decode_town)
  F_law : Fun TheK.K ("law" : Str) ("law" : Str) (top 36) a.f_law a.d_law
  b_law : L2.Binds TheK.K a.d_law [("_law_script" : Str)] []
  m_law : mg ("law" : Str) = some (.ref a.f_law)
  m_Town : mg ("Town" : Str) = some (.ref a.C_Town)
  m_InvalidTown : mg ("InvalidTown" : Str) = some (.ref a.C_InvalidTown)
  m_InvalidCount : mg ("InvalidCount" : Str) = some (.ref a.C_InvalidCount)
  m_InvalidData : mg ("InvalidData" : Str) = some (.ref a.C_InvalidData)
  m_TownReader : mg ("TownReader" : Str) = some (.ref a.C_TownReader)
  r_Town : ClX.CRead TheK.K a.C_Town a.mc
  v_Town_MAX_PLACES : ClX.CVal TheK.K a.C_Town a.mc ("MAX_PLACES" : Str) (.int 12) a.t_Town_MAX_PLACES
  v_Town_MAX_LIFE : ClX.CVal TheK.K a.C_Town a.mc ("MAX_LIFE" : Str) (.int 1000000000000000000) a.t_Town_MAX_LIFE
  v_Town_MAX_BRIDGES : ClX.CVal TheK.K a.C_Town a.mc ("MAX_BRIDGES" : Str) (.int 24) a.t_Town_MAX_BRIDGES
  s_Town_is_bridge : SMet TheK.K a.C_Town a.mc ("is_bridge" : Str) a.p_Town_is_bridge a.f_Town_is_bridge
  c_Town : Cls TheK.K a.C_Town
  k_Town : Mk TheK.K a.C_Town a.f_Town__init
  c_TownReader : Cls TheK.K a.C_TownReader
  k_TownReader : Mk TheK.K a.C_TownReader a.f_TownReader__init
  n_Town_size : NoAttr TheK.K a.C_Town ("size" : Str)
  n_Town_links : NoAttr TheK.K a.C_Town ("links" : Str)
  n_InvalidData_offset : PySem.W.findIn TheK.K (.ref a.C_InvalidData) ("offset" : Str) = some none
  n_TownReader_octets : NoAttr TheK.K a.C_TownReader ("octets" : Str)
  n_TownReader_cursor : NoAttr TheK.K a.C_TownReader ("cursor" : Str)
  xf_InvalidData : XfC TheK.K a.C_InvalidData
  p_Town_bridges : PropOf TheK.K a.C_Town ("bridges" : Str) a.a_Town_bridges a.f_Town_bridges
  p_Town_place_count : PropOf TheK.K a.C_Town ("place_count" : Str) a.a_Town_place_count a.f_Town_place_count
  q_TownReader_fail : Meth TheK.K a.C_TownReader ("fail" : Str) a.f_TownReader_fail
  q_TownReader_read : Meth TheK.K a.C_TownReader ("read" : Str) a.f_TownReader_read
  q_TownReader_read_life : Meth TheK.K a.C_TownReader ("read_life" : Str) a.f_TownReader_read_life
  q_TownReader_read_bridge : Meth TheK.K a.C_TownReader ("read_bridge" : Str) a.f_TownReader_read_bridge
  q_TownReader_read_town : Meth TheK.K a.C_TownReader ("read_town" : Str) a.f_TownReader_read_town
  m_MAX_LENGTH : mg ("MAX_LENGTH" : Str) = some (.int 99 a.t_MAX_LENGTH)
  m_HEAD : mg ("HEAD" : Str) = some (.int 84 a.t_HEAD)
  m_GROUP : mg ("GROUP" : Str) = some (.int 128 a.t_GROUP)
  m_START : mg ("START" : Str) = some (.int 5 a.t_START)
  m_FACTOR : mg ("FACTOR" : Str) = some (.int 41 a.t_FACTOR)
  m_MODULUS : mg ("MODULUS" : Str) = some (.int 65521 a.t_MODULUS)
  m_BYTE : mg ("BYTE" : Str) = some (.int 256 a.t_BYTE)
  z_range : mg ("range" : Str) = none
  z_int : mg ("int" : Str) = none
  z_len : mg ("len" : Str) = none
  z_tuple : mg ("tuple" : Str) = none
  z_enumerate : mg ("enumerate" : Str) = none
  z_list : mg ("list" : Str) = none
  z_bytes : mg ("bytes" : Str) = none
  z_all : mg ("all" : Str) = none
  z_isinstance : mg ("isinstance" : Str) = none
  x_InvalidTown : ∀ {P : Program} (w : World) (base : Heap), XInit P w TheK.K mg base 1 a.C_InvalidTown [("part" : Str), ("index" : Str)]
  e_InvalidCount : PySem.W.excIn TheK.K a.C_InvalidCount PySem.HandSPX.veTail "ValueError.__new__" = true
  kp_InvalidCount : PySem.W.keepIn TheK.K (.ref a.C_InvalidCount) = true
  eb_InvalidCount : PySem.W.subIn TheK.K (.ref a.C_InvalidCount) (.type "BaseException") = some true
  et_InvalidCount : PySem.W.typeIn TheK.K (.ref a.C_InvalidCount) = some (.type "type")
  x_InvalidData : ∀ {P : Program} (w : World) (base : Heap), XInit P w TheK.K mg base 1 a.C_InvalidData [("offset" : Str)]
  ci_Town : ClsI TheK.K a.C_Town
  ki_Town_tuple : PySem.W.kitOne TheK.K (.ref a.C_Town) (.type "tuple") = some false
  ec_InvalidCount : ExcC TheK.K a.C_InvalidCount
  xm_InvalidCount_InvalidCount : PySem.W.exmOne TheK.K (.ref a.C_InvalidCount) (.ref a.C_InvalidCount) = some true
  xm_InvalidCount_InvalidData : PySem.W.exmOne TheK.K (.ref a.C_InvalidCount) (.ref a.C_InvalidData) = some false
  ec_InvalidData : ExcC TheK.K a.C_InvalidData
  xm_InvalidData_InvalidCount : PySem.W.exmOne TheK.K (.ref a.C_InvalidData) (.ref a.C_InvalidCount) = some false
  xm_InvalidData_InvalidData : PySem.W.exmOne TheK.K (.ref a.C_InvalidData) (.ref a.C_InvalidData) = some true
  ec_InvalidTown : ExcC TheK.K a.C_InvalidTown
  xm_InvalidTown_InvalidCount : PySem.W.exmOne TheK.K (.ref a.C_InvalidTown) (.ref a.C_InvalidCount) = some false
  xm_InvalidTown_InvalidData : PySem.W.exmOne TheK.K (.ref a.C_InvalidTown) (.ref a.C_InvalidData) = some false
abbrev lamQ_law : Str := (envOfC ("law" : Str) (defScope (top 36)) 0 0 .none).qual ++ "<lambda>"
abbrev TLs (a : Ad) : List (Addr × Str) := [(a.lP_law, lamQ_law)]
abbrev LT (a : Ad) : Tl := (tabsOf (TLs a), [], fun _ => none)
/-- the tables of the defs that make lambdas -/
structure TBs (base : Heap) (mg : Str → Option Value) (a : Ad) : Prop where
  tb_law : LamX.TabB base mg a.lc_law a.lP_law
  hc_law : a.d_law.code = .ref a.lc_law
  hu_law : ∀ p ∈ TLs a, p.1 = a.lP_law → p.2 = lamQ_law
def kio_tuple (a : Ad) (D : Addr) : Option Bool := if D = a.C_Town then some false else none
theorem kio_tuple_ok {mg : Str → Option Value} {a : Ad} (X : Fx mg a) (D : Addr) (b : Bool) (h : kio_tuple a D = some b) : ClsI TheK.K D ∧ PySem.W.kitOne TheK.K (.ref D) (.type "tuple") = some b := by
  unfold kio_tuple at h
  by_cases h0 : D = a.C_Town
  · rw [if_pos h0] at h; cases h; subst h0; exact ⟨X.ci_Town, X.ki_Town_tuple⟩
  rw [if_neg h0] at h
  cases h
def exm_InvalidCount (a : Ad) (D : Addr) : Option Bool := if D = a.C_InvalidCount then some true else if D = a.C_InvalidData then some false else if D = a.C_InvalidTown then some false else none
theorem exm_InvalidCount_ok {mg : Str → Option Value} {a : Ad} (X : Fx mg a) (D : Addr) (b : Bool) (h : exm_InvalidCount a D = some b) : PySem.W.exmOne TheK.K (.ref D) (.ref a.C_InvalidCount) = some b := by
  unfold exm_InvalidCount at h
  by_cases h0 : D = a.C_InvalidCount
  · rw [if_pos h0] at h; cases h; subst h0; exact X.xm_InvalidCount_InvalidCount
  rw [if_neg h0] at h
  by_cases h1 : D = a.C_InvalidData
  · rw [if_pos h1] at h; cases h; subst h1; exact X.xm_InvalidData_InvalidCount
  rw [if_neg h1] at h
  by_cases h2 : D = a.C_InvalidTown
  · rw [if_pos h2] at h; cases h; subst h2; exact X.xm_InvalidTown_InvalidCount
  rw [if_neg h2] at h
  cases h
def exm_InvalidData (a : Ad) (D : Addr) : Option Bool := if D = a.C_InvalidCount then some false else if D = a.C_InvalidData then some true else if D = a.C_InvalidTown then some false else none
theorem exm_InvalidData_ok {mg : Str → Option Value} {a : Ad} (X : Fx mg a) (D : Addr) (b : Bool) (h : exm_InvalidData a D = some b) : PySem.W.exmOne TheK.K (.ref D) (.ref a.C_InvalidData) = some b := by
  unfold exm_InvalidData at h
  by_cases h0 : D = a.C_InvalidCount
  · rw [if_pos h0] at h; cases h; subst h0; exact X.xm_InvalidCount_InvalidData
  rw [if_neg h0] at h
  by_cases h1 : D = a.C_InvalidData
  · rw [if_pos h1] at h; cases h; subst h1; exact X.xm_InvalidData_InvalidData
  rw [if_neg h1] at h
  by_cases h2 : D = a.C_InvalidTown
  · rw [if_pos h2] at h; cases h; subst h2; exact X.xm_InvalidTown_InvalidData
  rw [if_neg h2] at h
  cases h
def q_law_start_3 (a : Ad) : CS := (sSet 1 (c2 oMod (c2 oAdd (c2 oAdd (c2 oMul (cVar 1) (cK (.int 48271))) (cVar 2)) (cK (.int 7))) (cK (.int 2147483647))))
def q_law_start_2 (a : Ad) : CS := (sFor (CL.iSeq (cVar 0)) (gN 2) (q_law_start_3 a))
def q_law_start_4 (a : Ad) : CS := (sRet (cToP (cLst (aCons (cVar 0) (aCons (cK (.int 0)) (aCons (cVar 1) (aCons (cK (.int 0)) aNil)))))))
theorem nd_law_start : ([("_law_script" : Str), ("_law_mixed" : Str), ("_law_cell" : Str)] : List Str).Nodup := by decide +kernel
def c_law_start (a : Ad) : CS := (sSeq (sSet 1 (cK (.int 1))) (sSeq (q_law_start_2 a) (q_law_start_4 a)))
def g_law_start (a : Ad) : G := run 3 (c_law_start a)
theorem ok_law_start {P : Program} {w : World} {mg : Str → Option Value} {base : Heap} {L : Tl} {a : Ad} (X : Fx mg a) : FnC P w TheK.K mg base L 1 a.f_law_start a.d_law_start [("_law_script" : Str)] (g_law_start a) := by
  refine fn_d X.F_law_start (N := [("_law_script" : Str), ("_law_mixed" : Str), ("_law_cell" : Str)]) (c := c_law_start a) (k := 0) (by conv => lhs; whnf) (by conv => lhs; whnf) ⟨rfl, rfl, rfl, nd_law_start, rfl, by decide +kernel, by decide +kernel⟩ ?_
  intro cdv A outer s H E I0 B0 hr
  exact (s_cons (s_set (i := 1) nd_law_start rfl (by first | exact Or.inl rfl | exact Or.inr rfl) e_int) (s_cons (s_for (passes_of rfl) rfl (i_seq (e_var 0)) (g_name (i := 2) nd_law_start rfl (by first | exact Or.inl rfl | exact Or.inr rfl)) (s_one (s_set (i := 1) nd_law_start rfl (by first | exact Or.inl rfl | exact Or.inr rfl) (e_op op_mod k_mod (e_op op_addA k_add (e_op op_addA k_add (e_op op_mulA k_mul (e_var 1) e_int) (e_var 2)) e_int) e_int)))) (s_one (s_ret (e_toP (f_lst (a_cons (e_var 0) (a_cons e_int (a_cons (e_var 1) (a_cons e_int a_nil))))))))))
def q_law_1 (a : Ad) : CS := (sSet 1 (cCall (g_law_start a) (aCons (cVar 0) aNil)))
def q_law_drawn_2 (a : Ad) : CS := (sSet 2 (c2 oMod (cApp bInt (aCons (c2 oIx (cVar 0) (cK (.int 3))) aNil)) (cVar 1)))
def q_law_drawn_3 (a : Ad) : CS := (sItem (cVar 0) (cK (.int 3)) (c2 oDiv (c2 oIx (cVar 0) (cK (.int 3))) (cVar 1)))
def q_law_drawn_1 (a : Ad) : CS := (sIf (tB (c2 oGt (c2 oIx (cVar 0) (cK (.int 3))) (cK (.int 0)))) (sSeq (q_law_drawn_2 a) (sSeq (q_law_drawn_3 a) (sRet (cVar 2)))) sNil)
def q_law_drawn_5 (a : Ad) : CS := (sItem (cVar 0) (cK (.int 1)) (c2 oAdd (c2 oIx (cVar 0) (cK (.int 1))) (cK (.int 1))))
def q_law_drawn_7 (a : Ad) : CS := (sSet 3 (c2 oIx (c2 oIx (cVar 0) (cK (.int 0))) (c2 oSub (c2 oIx (cVar 0) (cK (.int 1))) (cK (.int 1)))))
def q_law_drawn_8 (a : Ad) : CS := (sItem (cVar 0) (cK (.int 3)) (cIf (tB (c2 oGe (cVar 3) (c2 oPow (cK (.int 10)) (cK (.int 18))))) (c2 oDiv (cVar 3) (cVar 1)) (cK (.int 0))))
def q_law_drawn_9 (a : Ad) : CS := (sRet (c2 oMod (cApp bInt (aCons (cVar 3) aNil)) (cVar 1)))
def q_law_drawn_6 (a : Ad) : CS := (sIf (tB (c2 oLe (c2 oIx (cVar 0) (cK (.int 1))) (cApp bLen (aCons (c2 oIx (cVar 0) (cK (.int 0))) aNil)))) (sSeq (q_law_drawn_7 a) (sSeq (q_law_drawn_8 a) (q_law_drawn_9 a))) sNil)
def q_law_drawn_10 (a : Ad) : CS := (sItem (cVar 0) (cK (.int 2)) (c2 oMod (c2 oAdd (c2 oMul (c2 oIx (cVar 0) (cK (.int 2))) (cK (.int 48271))) (cK (.int 11))) (cK (.int 2147483647))))
def q_law_drawn_11 (a : Ad) : CS := (sRet (c2 oMod (c2 oDiv (c2 oIx (cVar 0) (cK (.int 2))) (cK (.int 7))) (cVar 1)))
theorem nd_law_drawn : ([("_law_state" : Str), ("_law_count" : Str), ("_law_result" : Str), ("_law_cell" : Str)] : List Str).Nodup := by decide +kernel
def c_law_drawn (a : Ad) : CS := (sSeq (q_law_drawn_1 a) (sSeq (q_law_drawn_5 a) (sSeq (q_law_drawn_6 a) (sSeq (q_law_drawn_10 a) (q_law_drawn_11 a)))))
def g_law_drawn (a : Ad) : G := run 4 (c_law_drawn a)
theorem ok_law_drawn {P : Program} {w : World} {mg : Str → Option Value} {base : Heap} {L : Tl} {a : Ad} (X : Fx mg a) : FnC P w TheK.K mg base L 1 a.f_law_drawn a.d_law_drawn [("_law_state" : Str), ("_law_count" : Str)] (g_law_drawn a) := by
  refine fn_d X.F_law_drawn (N := [("_law_state" : Str), ("_law_count" : Str), ("_law_result" : Str), ("_law_cell" : Str)]) (c := c_law_drawn a) (k := 0) (by conv => lhs; whnf) (by conv => lhs; whnf) ⟨rfl, rfl, rfl, nd_law_drawn, rfl, by decide +kernel, by decide +kernel⟩ ?_
  intro cdv A outer s H E I0 B0 hr
  exact (s_cons (s_if (t_cmp op_gt k_gt (e_ix (e_var 0) e_int) e_int rfl) (s_cons (s_set (i := 2) nd_law_drawn rfl (by first | exact Or.inl rfl | exact Or.inr rfl) (e_op op_mod k_mod (e_callTy call_int1 (k_int) rfl X.z_int bt_int (a_cons (e_ix (e_var 0) e_int) a_nil)) (e_var 1))) (s_cons (s_item (e_op op_fdivW k_div (e_ix (e_var 0) e_int) (e_var 1)) (e_var 0) e_int) (s_one (s_ret (e_var 2))))) s_nil) (s_cons (s_item (e_op op_addA k_add (e_ix (e_var 0) e_int) e_int) (e_var 0) e_int) (s_cons (s_if (t_cmp op_le k_le (e_ix (e_var 0) e_int) (e_callB call_len (k_len rfl) rfl X.z_len bt_len (a_cons (e_ix (e_var 0) e_int) a_nil)) rfl) (s_cons (s_set (i := 3) nd_law_drawn rfl (by first | exact Or.inl rfl | exact Or.inr rfl) (e_ix (e_ix (e_var 0) e_int) (e_op op_sub k_sub (e_ix (e_var 0) e_int) e_int))) (s_cons (s_item (e_if (t_cmp op_ge k_ge (e_var 3) (e_op op_pow k_pow e_int e_int) rfl) (e_op op_fdivW k_div (e_var 3) (e_var 1)) e_int) (e_var 0) e_int) (s_one (s_ret (e_op op_mod k_mod (e_callTy call_int1 (k_int) rfl X.z_int bt_int (a_cons (e_var 3) a_nil)) (e_var 1)))))) s_nil) (s_cons (s_item (e_op op_mod k_mod (e_op op_addA k_add (e_op op_mulA k_mul (e_ix (e_var 0) e_int) e_int) e_int) e_int) (e_var 0) e_int) (s_one (s_ret (e_op op_mod k_mod (e_op op_fdivW k_div (e_ix (e_var 0) e_int) e_int) (e_var 1))))))))
def q_law_3 (a : Ad) : CS := (sSet 3 (c2 oAdd (cK (.int 1)) (cCall (g_law_drawn a) (aCons (cVar 1) (aCons (cK (.int 12)) aNil)))))
def q_law_bridges_3 (a : Ad) : CS := (sSet 6 (cCall (g_law_drawn a) (aCons (cVar 0) (aCons (cVar 1) aNil))))
def q_law_bridges_4 (a : Ad) : CS := (sSet 7 (c2 oMod (c2 oAdd (c2 oAdd (cVar 6) (cK (.int 1))) (cCall (g_law_drawn a) (aCons (cVar 0) (aCons (c2 oSub (cVar 1) (cK (.int 1))) aNil)))) (cVar 1)))
def q_law_bridges_5 (a : Ad) : CS := (sSet 8 (cCall (g_law_drawn a) (aCons (cVar 0) (aCons (c2 oIx (cLst (aCons (cK (.int 8)) (aCons (cVar 3) aNil))) (cCall (g_law_drawn a) (aCons (cVar 0) (aCons (cK (.int 2)) aNil)))) aNil))))
def q_law_bridges_6 (a : Ad) : CS := (sAppend 4 (cTup (aCons (cVar 6) (aCons (cVar 7) (aCons (c2 oAdd (cK (.int 1)) (cCall (g_law_drawn a) (aCons (cVar 0) (aCons (c2 oIx (cLst (aCons (cK (.int 4)) (aCons (cK (.int 99)) aNil))) (cCall (g_law_drawn a) (aCons (cVar 0) (aCons (cK (.int 2)) aNil)))) aNil)))) (aCons (cVar 8) aNil))))))
def b_law_bridges_2 (a : Ad) : CS := (sSeq (q_law_bridges_3 a) (sSeq (q_law_bridges_4 a) (sSeq (q_law_bridges_5 a) (q_law_bridges_6 a))))
def q_law_bridges_2 (a : Ad) : CS := (sFor (CL.iRange1 (cIf (tB (c2 oGt (cVar 1) (cK (.int 1)))) (cCall (g_law_drawn a) (aCons (cVar 0) (aCons (c2 oAdd (cVar 2) (cK (.int 1))) aNil))) (cK (.int 0)))) (gN 5) (b_law_bridges_2 a))
def q_law_bridges_7 (a : Ad) : CS := (sFrz 4 (sRet (cApp bTuple (aCons (cVar 4) aNil))))
theorem nd_law_bridges : ([("_law_state" : Str), ("_law_count" : Str), ("_law_most" : Str), ("_law_high" : Str), ("_law_result" : Str), ("_law_k" : Str), ("_law_one" : Str), ("_law_other" : Str), ("_law_life" : Str)] : List Str).Nodup := by decide +kernel
def c_law_bridges (a : Ad) : CS := (sSeq (sSetL 4 (cLst aNil)) (sSeq (q_law_bridges_2 a) (q_law_bridges_7 a)))
def g_law_bridges (a : Ad) : G := run 9 (c_law_bridges a)
theorem ok_law_bridges {P : Program} {w : World} {mg : Str → Option Value} {base : Heap} {L : Tl} {a : Ad} (X : Fx mg a) : FnC P w TheK.K mg base L 2 a.f_law_bridges a.d_law_bridges [("_law_state" : Str), ("_law_count" : Str), ("_law_most" : Str), ("_law_high" : Str)] (g_law_bridges a) := by
  refine fn_d X.F_law_bridges (N := [("_law_state" : Str), ("_law_count" : Str), ("_law_most" : Str), ("_law_high" : Str), ("_law_result" : Str), ("_law_k" : Str), ("_law_one" : Str), ("_law_other" : Str), ("_law_life" : Str)]) (c := c_law_bridges a) (k := 1) (by conv => lhs; whnf) (by conv => lhs; whnf) ⟨rfl, rfl, rfl, nd_law_bridges, rfl, by decide +kernel, by decide +kernel⟩ ?_
  intro cdv A outer s H E I0 B0 hr
  exact (s_cons (s_setL (i := 4) nd_law_bridges rfl (Or.inl rfl) (f_lst a_nil)) (s_cons (s_for (passes_of rfl) rfl (i_range1 rfl X.z_range (e_if (t_cmp op_gt k_gt (e_var 1) e_int rfl) (e_call (ok_law_drawn X) (hr.mono (by decide)) rfl X.m_law_drawn X.F_law_drawn.kp X.b_law_drawn (takes_of rfl rfl rfl rfl) (a_cons (e_var 0) (a_cons (e_op op_addA k_add (e_var 2) e_int) a_nil)) (an1 (an1 an0))) e_int)) (g_name (i := 5) nd_law_bridges rfl (by first | exact Or.inl rfl | exact Or.inr rfl)) (s_cons (s_set (i := 6) nd_law_bridges rfl (by first | exact Or.inl rfl | exact Or.inr rfl) (e_call (ok_law_drawn X) (hr.mono (by decide)) rfl X.m_law_drawn X.F_law_drawn.kp X.b_law_drawn (takes_of rfl rfl rfl rfl) (a_cons (e_var 0) (a_cons (e_var 1) a_nil)) (an1 (an1 an0)))) (s_cons (s_set (i := 7) nd_law_bridges rfl (by first | exact Or.inl rfl | exact Or.inr rfl) (e_op op_mod k_mod (e_op op_addA k_add (e_op op_addA k_add (e_var 6) e_int) (e_call (ok_law_drawn X) (hr.mono (by decide)) rfl X.m_law_drawn X.F_law_drawn.kp X.b_law_drawn (takes_of rfl rfl rfl rfl) (a_cons (e_var 0) (a_cons (e_op op_sub k_sub (e_var 1) e_int) a_nil)) (an1 (an1 an0)))) (e_var 1))) (s_cons (s_set (i := 8) nd_law_bridges rfl (by first | exact Or.inl rfl | exact Or.inr rfl) (e_call (ok_law_drawn X) (hr.mono (by decide)) rfl X.m_law_drawn X.F_law_drawn.kp X.b_law_drawn (takes_of rfl rfl rfl rfl) (a_cons (e_var 0) (a_cons (e_ix (e_lst (a_cons e_int (a_cons (e_var 3) a_nil))) (e_call (ok_law_drawn X) (hr.mono (by decide)) rfl X.m_law_drawn X.F_law_drawn.kp X.b_law_drawn (takes_of rfl rfl rfl rfl) (a_cons (e_var 0) (a_cons e_int a_nil)) (an1 (an1 an0)))) a_nil)) (an1 (an1 an0)))) (s_one (s_append (i := 4) (pv 4) (e_tup (a_cons (e_var 6) (a_cons (e_var 7) (a_cons (e_op op_addA k_add e_int (e_call (ok_law_drawn X) (hr.mono (by decide)) rfl X.m_law_drawn X.F_law_drawn.kp X.b_law_drawn (takes_of rfl rfl rfl rfl) (a_cons (e_var 0) (a_cons (e_ix (e_lst (a_cons e_int (a_cons e_int a_nil))) (e_call (ok_law_drawn X) (hr.mono (by decide)) rfl X.m_law_drawn X.F_law_drawn.kp X.b_law_drawn (takes_of rfl rfl rfl rfl) (a_cons (e_var 0) (a_cons e_int a_nil)) (an1 (an1 an0)))) a_nil)) (an1 (an1 an0)))) (a_cons (e_var 8) a_nil))))))))))) (s_one (s_frz (i := 4) (s_ret (e_callTy call_tuple_of (k_tuple rfl) rfl X.z_tuple bt_tuple (a_cons (e_var 4) a_nil)))))))
def q_law_4 (a : Ad) : CS := (sSet 4 (cCall (g_law_bridges a) (aCons (cVar 1) (aCons (cVar 3) (aCons (c2 oIx (cLst (aCons (cK (.int 4)) (aCons (cK (.int 24)) aNil))) (cCall (g_law_drawn a) (aCons (cVar 1) (aCons (cK (.int 2)) aNil)))) (aCons (c2 oAdd (c2 oPow (cK (.int 10)) (cK (.int 18))) (cK (.int 1))) aNil))))))
def q_law_body_1 (a : Ad) : CS := (sSet 2 (cLst (aCons (cK (.int 84)) (aCons (cVar 0) (aCons (cApp bLen (aCons (cVar 1) aNil)) aNil)))))
def q_law_groups_1 (a : Ad) (gr : G) : CS := (sRet (cIf (tB (c2 oLt (cVar 0) (cK (.int 128)))) (cLst (aCons (cVar 0) aNil)) (c2 oAdd (cLst (aCons (c2 oAdd (c2 oMod (cApp bInt (aCons (cVar 0) aNil)) (cK (.int 128))) (cK (.int 128))) aNil)) (cCall gr (aCons (c2 oDiv (cVar 0) (cK (.int 128))) aNil)))))
theorem nd_law_groups : ([("_law_number" : Str)] : List Str).Nodup := by decide +kernel
def c_law_groups (a : Ad) (gr : G) : CS := (q_law_groups_1 a gr)
def g_law_groups (a : Ad) : Nat → G
  | 0 => fun _ _ => .bad
  | n + 1 => run 1 (c_law_groups a (g_law_groups a n))
theorem ok_law_groups {P : Program} {w : World} {mg : Str → Option Value} {base : Heap} {L : Tl} {a : Ad} : ∀ (n : Nat) (X : Fx mg a), FnC P w TheK.K mg base L (1 + n) a.f_law_groups a.d_law_groups [("_law_number" : Str)] (g_law_groups a n)
  | 0, X => FnC.no
  | n + 1, X => by
    have hrec := ok_law_groups (P := P) (w := w) (base := base) (L := L) n X
    refine fn_d X.F_law_groups (N := [("_law_number" : Str)]) (c := c_law_groups a (g_law_groups a n)) (k := 1 + n) (by conv => lhs; whnf) (by conv => lhs; whnf) ⟨rfl, rfl, rfl, nd_law_groups, rfl, by decide +kernel, by decide +kernel⟩ ?_
    intro cdv A outer s H E I0 B0 hr
    exact (s_one (s_ret (e_if (t_cmp op_lt k_lt (e_var 0) e_int rfl) (e_lst (a_cons (e_var 0) a_nil)) (e_op op_addA k_add (e_lst (a_cons (e_op op_addA k_add (e_op op_mod k_mod (e_callTy call_int1 (k_int) rfl X.z_int bt_int (a_cons (e_var 0) a_nil)) e_int) e_int) a_nil)) (e_call hrec (hr.mono (by omega)) rfl X.m_law_groups X.F_law_groups.kp X.b_law_groups (takes_of rfl rfl rfl rfl) (a_cons (e_op op_fdivW k_div (e_var 0) e_int) a_nil) (an1 an0))))))
def q_law_body_3 (a : Ad) : CS := (sSet 2 (c2 oAdd (c2 oAdd (cVar 2) (cLst (aCons (cVar 3) (aCons (cVar 4) (aCons (cVar 5) aNil))))) (cCall (g_law_groups a 10) (aCons (cVar 6) aNil))))
def q_law_body_2 (a : Ad) : CS := (sFor (CL.iSeq (cVar 1)) (CL.gTup 4 (gCons (gN 3) (gCons (gN 4) (gCons (gN 5) (gCons (gN 6) gNil))))) (q_law_body_3 a))
theorem nd_law_body : ([("_law_count" : Str), ("_law_bridges_here" : Str), ("_law_octets" : Str), ("_law_one" : Str), ("_law_other" : Str), ("_law_length" : Str), ("_law_life" : Str)] : List Str).Nodup := by decide +kernel
def c_law_body (a : Ad) : CS := (sSeq (q_law_body_1 a) (sSeq (q_law_body_2 a) (sRet (cVar 2))))
def g_law_body (a : Ad) : G := run 7 (c_law_body a)
theorem ok_law_body {P : Program} {w : World} {mg : Str → Option Value} {base : Heap} {L : Tl} {a : Ad} (X : Fx mg a) : FnC P w TheK.K mg base L 12 a.f_law_body a.d_law_body [("_law_count" : Str), ("_law_bridges_here" : Str)] (g_law_body a) := by
  refine fn_d X.F_law_body (N := [("_law_count" : Str), ("_law_bridges_here" : Str), ("_law_octets" : Str), ("_law_one" : Str), ("_law_other" : Str), ("_law_length" : Str), ("_law_life" : Str)]) (c := c_law_body a) (k := 11) (by conv => lhs; whnf) (by conv => lhs; whnf) ⟨rfl, rfl, rfl, nd_law_body, rfl, by decide +kernel, by decide +kernel⟩ ?_
  intro cdv A outer s H E I0 B0 hr
  exact (s_cons (s_set (i := 2) nd_law_body rfl (by first | exact Or.inl rfl | exact Or.inr rfl) (e_lst (a_cons e_int (a_cons (e_var 0) (a_cons (e_callB call_len (k_len rfl) rfl X.z_len bt_len (a_cons (e_var 1) a_nil)) a_nil))))) (s_cons (s_for (passes_of rfl) rfl (i_seq (e_var 1)) (g_tup rfl (g_cons (g_name (i := 3) nd_law_body rfl (by first | exact Or.inl rfl | exact Or.inr rfl)) (g_cons (g_name (i := 4) nd_law_body rfl (by first | exact Or.inl rfl | exact Or.inr rfl)) (g_cons (g_name (i := 5) nd_law_body rfl (by first | exact Or.inl rfl | exact Or.inr rfl)) (g_cons (g_name (i := 6) nd_law_body rfl (by first | exact Or.inl rfl | exact Or.inr rfl)) g_nil))))) (s_one (s_set (i := 2) nd_law_body rfl (by first | exact Or.inl rfl | exact Or.inr rfl) (e_op op_addA k_add (e_op op_addA k_add (e_var 2) (e_lst (a_cons (e_var 3) (a_cons (e_var 4) (a_cons (e_var 5) a_nil))))) (e_call (ok_law_groups 10 X) (hr.mono (by decide)) rfl X.m_law_groups X.F_law_groups.kp X.b_law_groups (takes_of rfl rfl rfl rfl) (a_cons (e_var 6) a_nil) (an1 an0)))))) (s_one (s_ret (e_var 2)))))
def q_law_5 (a : Ad) : CS := (sSet 5 (cCall (g_law_body a) (aCons (cVar 3) (aCons (cVar 4) aNil))))
def q_law_7 (a : Ad) : CS := (sSet 6 (c2 oAdd (cCut (c2 oIx (cVar 4) (cK (.int 0))) oNone (oSome (cK (.int 3)))) (cTup (aCons (c2 oAdd (c2 oAdd (c2 oPow (cK (.int 10)) (cK (.int 18))) (cK (.int 1))) (cCall (g_law_drawn a) (aCons (cVar 1) (aCons (cK (.int 99)) aNil)))) aNil))))
def q_law_8 (a : Ad) : CS := (sSet 5 (cCall (g_law_body a) (aCons (cVar 3) (aCons (c2 oAdd (cTup (aCons (cVar 6) aNil)) (cCut (cVar 4) (oSome (cK (.int 1))) oNone)) aNil))))
def q_Town__init_2 (a : Ad) : CS := (sRaiseK a.C_InvalidTown [("part" : Str), ("index" : Str)] (aCons (cK (.str ("count" : Str))) (aCons (cK (.int 0)) aNil)))
def q_Town__init_1 (a : Ad) : CS := (sIf (tNot (tB (cChain oLe oLe (cK (.int 1)) (cVar 1) (cVal a.C_Town (.int 12) (cK (.ref a.C_Town)))))) (q_Town__init_2 a) sNil)
def q_Town_is_bridge_1 (a : Ad) : CS := (sIf (tB (c2 (oEq true) (cApp bLen (aCons (cVar 1) aNil)) (cK (.int 4)))) (sRet (cK (.bl false))) sNil)
def q_Town_is_bridge_3 (a : Ad) : CS := (sAsg (cVar 1) (CL.gTup 4 (gCons (gN 2) (gCons (gN 3) (gCons (gN 4) (gCons (gN 5) gNil))))))
def q_Town_is_bridge_4 (a : Ad) : CS := (sIf (CL.tOr (tNot (tB (cChain oLe oLt (cK (.int 0)) (cVar 2) (cVar 0)))) (CL.tOr (tNot (tB (cChain oLe oLt (cK (.int 0)) (cVar 3) (cVar 0)))) (tB (c2 (oEq false) (cVar 2) (cVar 3))))) (sRet (cK (.bl false))) sNil)
def q_Town_is_bridge_6 (a : Ad) : CS := (sRet (cAnd (cChain oLe oLe (cK (.int 1)) (cVar 4) (cK (.int 99))) (cChain oLe oLe (cK (.int 0)) (cVar 5) (cVal a.C_Town (.int 1000000000000000000) (cK (.ref a.C_Town))))))
theorem nd_Town_is_bridge : ([("count" : Str), ("bridge" : Str), ("one" : Str), ("other" : Str), ("length" : Str), ("life" : Str)] : List Str).Nodup := by decide +kernel
def c_Town_is_bridge (a : Ad) : CS := (sSeq (q_Town_is_bridge_1 a) (sSeq (q_Town_is_bridge_3 a) (sSeq (q_Town_is_bridge_4 a) (q_Town_is_bridge_6 a))))
def g_Town_is_bridge (a : Ad) : G := run 6 (c_Town_is_bridge a)
theorem ok_Town_is_bridge {P : Program} {w : World} {mg : Str → Option Value} {base : Heap} {L : Tl} {a : Ad} (X : Fx mg a) : FnC P w TheK.K mg base L 1 a.f_Town_is_bridge a.d_Town_is_bridge [("count" : Str), ("bridge" : Str)] (g_Town_is_bridge a) := by
  refine fn_d X.F_Town_is_bridge (N := [("count" : Str), ("bridge" : Str), ("one" : Str), ("other" : Str), ("length" : Str), ("life" : Str)]) (c := c_Town_is_bridge a) (k := 0) (by conv => lhs; whnf) (by conv => lhs; whnf) ⟨rfl, rfl, rfl, nd_Town_is_bridge, rfl, by decide +kernel, by decide +kernel⟩ ?_
  intro cdv A outer s H E I0 B0 hr
  exact (s_cons (s_if (t_cmp (op_neD hr.units) k_ne (e_callB call_len (k_len rfl) rfl X.z_len bt_len (a_cons (e_var 1) a_nil)) e_int rfl) (s_one (s_ret e_bl)) s_nil) (s_cons (s_asg (e_var 1) (g_tup rfl (g_cons (g_name (i := 2) nd_Town_is_bridge rfl (by first | exact Or.inl rfl | exact Or.inr rfl)) (g_cons (g_name (i := 3) nd_Town_is_bridge rfl (by first | exact Or.inl rfl | exact Or.inr rfl)) (g_cons (g_name (i := 4) nd_Town_is_bridge rfl (by first | exact Or.inl rfl | exact Or.inr rfl)) (g_cons (g_name (i := 5) nd_Town_is_bridge rfl (by first | exact Or.inl rfl | exact Or.inr rfl)) g_nil)))))) (s_cons (s_if (t_w (w_or (CL.t_not (t_chain op_le op_lt k_le k_lt e_int (e_var 2) (e_var 0))) (w_or (CL.t_not (t_chain op_le op_lt k_le k_lt e_int (e_var 3) (e_var 0))) (w_or1 (t_cmp (op_eqD hr.units) k_eq (e_var 2) (e_var 3) rfl))))) (s_one (s_ret e_bl)) s_nil) (s_one (s_ret (e_and (e_chain op_le op_le k_le k_le e_int (e_var 4) (e_globI rfl X.m_MAX_LENGTH)) (e_one (e_chain op_le op_le k_le k_le e_int (e_var 5) (e_cval (e_glob rfl X.m_Town) X.r_Town X.v_Town_MAX_LIFE fun _ _ => rfl)))))))))
def q_Town__init_5 (a : Ad) : CS := (sRaiseK a.C_InvalidTown [("part" : Str), ("index" : Str)] (aCons (cK (.str ("bridges" : Str))) (aCons (cVar 3) aNil)))
def q_Town__init_4 (a : Ad) : CS := (sIf (CL.tOr (tB (c2 (oEq false) (cVar 3) (cVal a.C_Town (.int 24) (cK (.ref a.C_Town))))) (tNot (tB (cStat a.C_Town (g_Town_is_bridge a) (cK (.ref a.C_Town)) (aCons (cVar 1) (aCons (cVar 4) aNil)))))) (q_Town__init_5 a) sNil)
def q_Town__init_3 (a : Ad) : CS := (sFor (CL.iEnum (cVar 2)) (CL.gTup 2 (gCons (gN 3) (gCons (gN 4) gNil))) (q_Town__init_4 a))
def q_Town__init_6 (a : Ad) : CS := (sField a.C_Town ("size" : Str) (cVar 0) (cVar 1))
def q_Town__init_7 (a : Ad) : CS := (sField a.C_Town ("links" : Str) (cVar 0) (cVar 2))
theorem nd_Town__init : ([("self" : Str), ("count" : Str), ("bridges" : Str), ("index" : Str), ("bridge" : Str)] : List Str).Nodup := by decide +kernel
def c_Town__init (a : Ad) : CS := (sSeq (q_Town__init_1 a) (sSeq (q_Town__init_3 a) (sSeq (q_Town__init_6 a) (q_Town__init_7 a))))
def g_Town__init (a : Ad) : G := run 5 (c_Town__init a)
theorem ok_Town__init {P : Program} {w : World} {mg : Str → Option Value} {base : Heap} {L : Tl} {a : Ad} (X : Fx mg a) : FnC P w TheK.K mg base L 3 a.f_Town__init a.d_Town__init [("self" : Str), ("count" : Str), ("bridges" : Str)] (g_Town__init a) := by
  refine fn_d X.F_Town__init (N := [("self" : Str), ("count" : Str), ("bridges" : Str), ("index" : Str), ("bridge" : Str)]) (c := c_Town__init a) (k := 2) (by conv => lhs; whnf) (by conv => lhs; whnf) ⟨rfl, rfl, rfl, nd_Town__init, rfl, by decide +kernel, by decide +kernel⟩ ?_
  intro cdv A outer s H E I0 B0 hr
  exact (s_cons (s_if (CL.t_not (t_chain op_le op_le k_le k_le e_int (e_var 1) (e_cval (e_glob rfl X.m_Town) X.r_Town X.v_Town_MAX_PLACES fun _ _ => rfl))) (s_one (s_raiseK rfl (takes_of rfl rfl rfl rfl) (X.x_InvalidTown w base) (hr.mono (by decide)) rfl X.m_InvalidTown (kw_cons e_str (kw_cons e_int kw_nil)))) s_nil) (s_cons (s_for (passes_of rfl) rfl (i_enum rfl X.z_enumerate (e_var 2)) (g_tup rfl (g_cons (g_name (i := 3) nd_Town__init rfl (by first | exact Or.inl rfl | exact Or.inr rfl)) (g_cons (g_name (i := 4) nd_Town__init rfl (by first | exact Or.inl rfl | exact Or.inr rfl)) g_nil))) (s_one (s_if (t_w (w_or (t_cmp (op_eqD hr.units) k_eq (e_var 3) (e_cval (e_glob rfl X.m_Town) X.r_Town X.v_Town_MAX_BRIDGES fun _ _ => rfl) rfl) (w_or1 (CL.t_not (t_val (e_stat (e_glob rfl X.m_Town) X.r_Town X.s_Town_is_bridge (ok_Town_is_bridge X) (hr.mono (by decide)) X.b_Town_is_bridge (takes_of rfl rfl rfl rfl) (a_cons (e_var 1) (a_cons (e_var 4) a_nil)) (an1 (an1 an0)))))))) (s_one (s_raiseK rfl (takes_of rfl rfl rfl rfl) (X.x_InvalidTown w base) (hr.mono (by decide)) rfl X.m_InvalidTown (kw_cons e_str (kw_cons (e_var 3) kw_nil)))) s_nil))) (s_cons (s_field (e_var 0) (e_var 1) X.c_Town X.n_Town_size) (s_one (s_field (e_var 0) (e_var 2) X.c_Town X.n_Town_links)))))
def q_Town_bridges_1 (a : Ad) : CS := (sRet (cFld a.C_Town ("links" : Str) (cVar 0)))
theorem nd_Town_bridges : ([("self" : Str)] : List Str).Nodup := by decide +kernel
def c_Town_bridges (a : Ad) : CS := (q_Town_bridges_1 a)
def g_Town_bridges (a : Ad) : G := run 1 (c_Town_bridges a)
theorem ok_Town_bridges {P : Program} {w : World} {mg : Str → Option Value} {base : Heap} {L : Tl} {a : Ad} (X : Fx mg a) : FnC P w TheK.K mg base L 1 a.f_Town_bridges a.d_Town_bridges [("self" : Str)] (g_Town_bridges a) := by
  refine fn_d X.F_Town_bridges (N := [("self" : Str)]) (c := c_Town_bridges a) (k := 0) (by conv => lhs; whnf) (by conv => lhs; whnf) ⟨rfl, rfl, rfl, nd_Town_bridges, rfl, by decide +kernel, by decide +kernel⟩ ?_
  intro cdv A outer s H E I0 B0 hr
  exact (s_one (s_ret (e_fld ("links" : Str) (e_var 0) X.c_Town X.n_Town_links)))
def q_Town_place_count_1 (a : Ad) : CS := (sRet (cFld a.C_Town ("size" : Str) (cVar 0)))
theorem nd_Town_place_count : ([("self" : Str)] : List Str).Nodup := by decide +kernel
def c_Town_place_count (a : Ad) : CS := (q_Town_place_count_1 a)
def g_Town_place_count (a : Ad) : G := run 1 (c_Town_place_count a)
theorem ok_Town_place_count {P : Program} {w : World} {mg : Str → Option Value} {base : Heap} {L : Tl} {a : Ad} (X : Fx mg a) : FnC P w TheK.K mg base L 1 a.f_Town_place_count a.d_Town_place_count [("self" : Str)] (g_Town_place_count a) := by
  refine fn_d X.F_Town_place_count (N := [("self" : Str)]) (c := c_Town_place_count a) (k := 0) (by conv => lhs; whnf) (by conv => lhs; whnf) ⟨rfl, rfl, rfl, nd_Town_place_count, rfl, by decide +kernel, by decide +kernel⟩ ?_
  intro cdv A outer s H E I0 B0 hr
  exact (s_one (s_ret (e_fld ("size" : Str) (e_var 0) X.c_Town X.n_Town_size)))
def q_encode_town_1 (a : Ad) : CS := (sSetL 1 (cLst (aCons (cK (.int 84)) (aCons (cProp a.C_Town (gNox (g_Town_place_count a)) (cVar 0)) (aCons (cApp bLen (aCons (cProp a.C_Town (gNox (g_Town_bridges a)) (cVar 0)) aNil)) aNil)))))
def q_groups_of_3 (a : Ad) : CS := (sSet 0 (c2 oDiv (cVar 0) (cK (.int 128))))
def b_groups_of_1 (a : Ad) : CG := (gSeq (gYield (c2 oAdd (c2 oMod (cApp bInt (aCons (cVar 0) aNil)) (cK (.int 128))) (cK (.int 128)))) (gSeq (gPlain (q_groups_of_3 a)) gDone))
theorem nd_groups_of : ([("number" : Str)] : List Str).Nodup := by decide +kernel
def cy_groups_of (a : Ad) : CG := (gSeq (gWhile 400 (tB (c2 oGe (cVar 0) (cK (.int 128)))) (b_groups_of_1 a)) (gSeq (gYield (cVar 0)) gDone))
def gg_groups_of (a : Ad) : GG := runG 1 (cy_groups_of a)
theorem ok_groups_of {P : Program} {w : World} {mg : Str → Option Value} {base : Heap} {L : Tl} {a : Ad} (X : Fx mg a) : GFnC P w TheK.K mg base L 1 a.f_groups_of a.d_groups_of [("number" : Str)] (gg_groups_of a) := by
  refine fn_yd X.F_groups_of (N := [("number" : Str)]) (c := cy_groups_of a) (k := 0) (by conv => lhs; whnf) (by conv => lhs; whnf) ⟨rfl, rfl, rfl, nd_groups_of, rfl, by decide +kernel, by decide +kernel⟩ ?_
  intro cdv A outer s H E I0 B0 pn hr
  exact (y_cons (y_while 400 owns_gcx (t_cmp op_ge k_ge (e_var 0) (e_globI rfl X.m_GROUP) rfl) (y_cons (y_yield (e_op op_addA k_add (e_op op_mod k_mod (e_callTy call_int1 (k_int) rfl X.z_int bt_int (a_cons (e_var 0) a_nil)) (e_globI rfl X.m_GROUP)) (e_globI rfl X.m_GROUP))) (y_one (y_plain (s_set (i := 0) nd_groups_of rfl (by first | exact Or.inl rfl | exact Or.inr rfl) (e_op op_fdivW k_div (e_var 0) (e_globI rfl X.m_GROUP))))))) (y_one (y_yield (e_var 0))))
def q_encode_town_3 (a : Ad) : CS := (sExtend 1 (cLst (aCons (cVar 2) (aCons (cVar 3) (aCons (cVar 4) (aStarC (cListG (gg_groups_of a) (aCons (cVar 5) aNil)) aNil))))))
def q_encode_town_2 (a : Ad) : CS := (sFor (CL.iSeq (cProp a.C_Town (gNox (g_Town_bridges a)) (cVar 0))) (CL.gTup 4 (gCons (gN 2) (gCons (gN 3) (gCons (gN 4) (gCons (gN 5) gNil))))) (q_encode_town_3 a))
def q_checksum_3 (a : Ad) : CS := (sSet 1 (c2 oMod (cApp bInt (aCons (c2 oAdd (c2 oMul (cVar 1) (cK (.int 41))) (cVar 2)) aNil)) (cK (.int 65521))))
def q_checksum_2 (a : Ad) : CS := (sFor (CL.iSeq (cVar 0)) (gN 2) (q_checksum_3 a))
def q_checksum_4 (a : Ad) : CS := (sRet (cLst (aCons (c2 oDiv (cVar 1) (cK (.int 256))) (aCons (c2 oMod (cApp bInt (aCons (cVar 1) aNil)) (cK (.int 256))) aNil))))
theorem nd_checksum : ([("octets" : Str), ("total" : Str), ("octet" : Str)] : List Str).Nodup := by decide +kernel
def c_checksum (a : Ad) : CS := (sSeq (sSet 1 (cK (.int 5))) (sSeq (q_checksum_2 a) (q_checksum_4 a)))
def g_checksum (a : Ad) : G := run 3 (c_checksum a)
theorem ok_checksum {P : Program} {w : World} {mg : Str → Option Value} {base : Heap} {L : Tl} {a : Ad} (X : Fx mg a) : FnC P w TheK.K mg base L 1 a.f_checksum a.d_checksum [("octets" : Str)] (g_checksum a) := by
  refine fn_d X.F_checksum (N := [("octets" : Str), ("total" : Str), ("octet" : Str)]) (c := c_checksum a) (k := 0) (by conv => lhs; whnf) (by conv => lhs; whnf) ⟨rfl, rfl, rfl, nd_checksum, rfl, by decide +kernel, by decide +kernel⟩ ?_
  intro cdv A outer s H E I0 B0 hr
  exact (s_cons (s_set (i := 1) nd_checksum rfl (by first | exact Or.inl rfl | exact Or.inr rfl) (e_globI rfl X.m_START)) (s_cons (s_for (passes_of rfl) rfl (i_seq (e_var 0)) (g_name (i := 2) nd_checksum rfl (by first | exact Or.inl rfl | exact Or.inr rfl)) (s_one (s_set (i := 1) nd_checksum rfl (by first | exact Or.inl rfl | exact Or.inr rfl) (e_op op_mod k_mod (e_callTy call_int1 (k_int) rfl X.z_int bt_int (a_cons (e_op op_addA k_add (e_op op_mulA k_mul (e_var 1) (e_globI rfl X.m_FACTOR)) (e_var 2)) a_nil)) (e_globI rfl X.m_MODULUS))))) (s_one (s_ret (e_lst (a_cons (e_op op_fdivW k_div (e_var 1) (e_globI rfl X.m_BYTE)) (a_cons (e_op op_mod k_mod (e_callTy call_int1 (k_int) rfl X.z_int bt_int (a_cons (e_var 1) a_nil)) (e_globI rfl X.m_BYTE)) a_nil)))))))
def q_encode_town_4 (a : Ad) : CS := (sFrz 1 (sRet (cApp bBytes (aCons (cLst (aStarC (cVar 1) (aStarC (cCall (g_checksum a) (aCons (cVar 1) aNil)) aNil))) aNil))))
theorem nd_encode_town : ([("town" : Str), ("octets" : Str), ("one" : Str), ("other" : Str), ("length" : Str), ("life" : Str)] : List Str).Nodup := by decide +kernel
def c_encode_town (a : Ad) : CS := (sSeq (q_encode_town_1 a) (sSeq (q_encode_town_2 a) (q_encode_town_4 a)))
def g_encode_town (a : Ad) : G := run 6 (c_encode_town a)
theorem ok_encode_town {P : Program} {w : World} {mg : Str → Option Value} {base : Heap} {L : Tl} {a : Ad} (X : Fx mg a) : FnC P w TheK.K mg base L 5 a.f_encode_town a.d_encode_town [("town" : Str)] (g_encode_town a) := by
  refine fn_d X.F_encode_town (N := [("town" : Str), ("octets" : Str), ("one" : Str), ("other" : Str), ("length" : Str), ("life" : Str)]) (c := c_encode_town a) (k := 4) (by conv => lhs; whnf) (by conv => lhs; whnf) ⟨rfl, rfl, rfl, nd_encode_town, rfl, by decide +kernel, by decide +kernel⟩ ?_
  intro cdv A outer s H E I0 B0 hr
  exact (s_cons (s_setL (i := 1) nd_encode_town rfl (Or.inl rfl) (f_lst (a_cons (e_globI rfl X.m_HEAD) (a_cons (e_prop (e_var 0) X.c_Town X.p_Town_place_count (ok_Town_place_count X) (hr.mono (by decide)) X.b_Town_place_count rfl) (a_cons (e_callB call_len (k_len rfl) rfl X.z_len bt_len (a_cons (e_prop (e_var 0) X.c_Town X.p_Town_bridges (ok_Town_bridges X) (hr.mono (by decide)) X.b_Town_bridges rfl) a_nil)) a_nil))))) (s_cons (s_for (passes_of rfl) rfl (i_seq (e_prop (e_var 0) X.c_Town X.p_Town_bridges (ok_Town_bridges X) (hr.mono (by decide)) X.b_Town_bridges rfl)) (g_tup rfl (g_cons (g_name (i := 2) nd_encode_town rfl (by first | exact Or.inl rfl | exact Or.inr rfl)) (g_cons (g_name (i := 3) nd_encode_town rfl (by first | exact Or.inl rfl | exact Or.inr rfl)) (g_cons (g_name (i := 4) nd_encode_town rfl (by first | exact Or.inl rfl | exact Or.inr rfl)) (g_cons (g_name (i := 5) nd_encode_town rfl (by first | exact Or.inl rfl | exact Or.inr rfl)) g_nil))))) (s_one (s_extend (i := 1) (pv 1) (e_lst (a_cons (e_var 2) (a_cons (e_var 3) (a_cons (e_var 4) (a_starC rfl (e_listG (ok_groups_of X) (hr.mono (by decide)) rfl X.m_groups_of X.F_groups_of.kp X.b_groups_of (a_cons (e_var 5) a_nil) (an1 an0) rfl X.z_list) a_nil)))))))) (s_one (s_frz (i := 1) (s_ret (e_callTy (call_bytes_list rfl) (k_bytes rfl) rfl X.z_bytes bt_bytes (a_cons (e_lst (a_starC rfl (e_var 1) (a_starC rfl (e_call (ok_checksum X) (hr.mono (by decide)) rfl X.m_checksum X.F_checksum.kp X.b_checksum (takes_of rfl rfl rfl rfl) (a_cons (e_var 1) a_nil) (an1 an0)) a_nil))) a_nil)))))))
theorem nd_unpack_bytes : ([("data" : Str)] : List Str).Nodup := by decide +kernel
def c_unpack_bytes (a : Ad) : CS := (sRet (cListB (cVar 0)))
def g_unpack_bytes (a : Ad) : G := run 1 (c_unpack_bytes a)
theorem ok_unpack_bytes {P : Program} {w : World} {mg : Str → Option Value} {base : Heap} {L : Tl} {a : Ad} (X : Fx mg a) : FnC P w TheK.K mg base L 1 a.f_unpack_bytes a.d_unpack_bytes [("data" : Str)] (g_unpack_bytes a) := by
  refine fn_d X.F_unpack_bytes (N := [("data" : Str)]) (c := c_unpack_bytes a) (k := 0) (by conv => lhs; whnf) (by conv => lhs; whnf) ⟨rfl, rfl, rfl, nd_unpack_bytes, rfl, by decide +kernel, by decide +kernel⟩ ?_
  intro cdv A outer s H E I0 B0 hr
  exact (s_one (s_ret (e_listB rfl X.z_list (e_var 0))))
def q_law_checksum_3 (a : Ad) : CS := (sSet 1 (c2 oMod (cApp bInt (aCons (c2 oAdd (c2 oMul (cVar 1) (cK (.int 41))) (cVar 2)) aNil)) (cK (.int 65521))))
def q_law_checksum_2 (a : Ad) : CS := (sFor (CL.iSeq (cVar 0)) (gN 2) (q_law_checksum_3 a))
def q_law_checksum_4 (a : Ad) : CS := (sRet (cLst (aCons (c2 oDiv (cVar 1) (cK (.int 256))) (aCons (c2 oMod (cApp bInt (aCons (cVar 1) aNil)) (cK (.int 256))) aNil))))
theorem nd_law_checksum : ([("_law_octets" : Str), ("_law_total" : Str), ("_law_octet" : Str)] : List Str).Nodup := by decide +kernel
def c_law_checksum (a : Ad) : CS := (sSeq (sSet 1 (cK (.int 5))) (sSeq (q_law_checksum_2 a) (q_law_checksum_4 a)))
def g_law_checksum (a : Ad) : G := run 3 (c_law_checksum a)
theorem ok_law_checksum {P : Program} {w : World} {mg : Str → Option Value} {base : Heap} {L : Tl} {a : Ad} (X : Fx mg a) : FnC P w TheK.K mg base L 1 a.f_law_checksum a.d_law_checksum [("_law_octets" : Str)] (g_law_checksum a) := by
  refine fn_d X.F_law_checksum (N := [("_law_octets" : Str), ("_law_total" : Str), ("_law_octet" : Str)]) (c := c_law_checksum a) (k := 0) (by conv => lhs; whnf) (by conv => lhs; whnf) ⟨rfl, rfl, rfl, nd_law_checksum, rfl, by decide +kernel, by decide +kernel⟩ ?_
  intro cdv A outer s H E I0 B0 hr
  exact (s_cons (s_set (i := 1) nd_law_checksum rfl (by first | exact Or.inl rfl | exact Or.inr rfl) e_int) (s_cons (s_for (passes_of rfl) rfl (i_seq (e_var 0)) (g_name (i := 2) nd_law_checksum rfl (by first | exact Or.inl rfl | exact Or.inr rfl)) (s_one (s_set (i := 1) nd_law_checksum rfl (by first | exact Or.inl rfl | exact Or.inr rfl) (e_op op_mod k_mod (e_callTy call_int1 (k_int) rfl X.z_int bt_int (a_cons (e_op op_addA k_add (e_op op_mulA k_mul (e_var 1) e_int) (e_var 2)) a_nil)) e_int)))) (s_one (s_ret (e_lst (a_cons (e_op op_fdivW k_div (e_var 1) e_int) (a_cons (e_op op_mod k_mod (e_callTy call_int1 (k_int) rfl X.z_int bt_int (a_cons (e_var 1) a_nil)) e_int) a_nil)))))))
def q_law_9 (a : Ad) : CS := (sIf (tB (c2 (oEq true) (cCall (g_unpack_bytes a) (aCons (cCall (g_encode_town a) (aCons (cMake a.C_Town (g_Town__init a) (aCons (cVar 3) (aCons (cVar 4) aNil))) aNil)) aNil)) (c2 oAdd (cVar 5) (cCall (g_law_checksum a) (aCons (cVar 5) aNil))))) (sRet (cK (.bl false))) sNil)
def q_law_6 (a : Ad) : CS := (sIf (CL.tAnd (tB (c2 (oEq false) (cVar 2) (cK (.int 0)))) (tB (c2 (oEq true) (cVar 4) (cTup aNil)))) (sSeq (q_law_7 a) (q_law_8 a)) (q_law_9 a))
def q_law_damaged_1 (a : Ad) : CS := (sPar 2 3 (aCons (cCall (g_law_drawn a) (aCons (cVar 0) (aCons (cK (.int 8)) aNil))) (aCons (c2 oAdd (cVar 1) (cCall (g_law_checksum a) (aCons (cVar 1) aNil))) aNil)))
def q_law_damaged_3 (a : Ad) : CS := (sRet (cCut (cVar 3) oNone (oSome (cCall (g_law_drawn a) (aCons (cVar 0) (aCons (c2 oAdd (cApp bLen (aCons (cVar 3) aNil)) (cK (.int 1))) aNil))))))
def q_law_damaged_2 (a : Ad) : CS := (sIf (tB (c2 (oEq false) (cVar 2) (cK (.int 0)))) (q_law_damaged_3 a) sNil)
def q_law_damaged_5 (a : Ad) : CS := (sRet (c2 oAdd (cVar 3) (cLst (aCons (cCall (g_law_drawn a) (aCons (cVar 0) (aCons (cK (.int 256)) aNil))) aNil))))
def q_law_damaged_4 (a : Ad) : CS := (sIf (tB (c2 (oEq false) (cVar 2) (cK (.int 1)))) (q_law_damaged_5 a) sNil)
def q_law_damaged_7 (a : Ad) : CS := (sPar 5 6 (aCons (cCall (g_law_drawn a) (aCons (cVar 0) (aCons (cApp bLen (aCons (cVar 1) aNil)) aNil))) (aCons (c2 oIx (cLst (aCons (cCall (g_law_drawn a) (aCons (cVar 0) (aCons (cK (.int 256)) aNil))) (aCons (cCall (g_law_drawn a) (aCons (cVar 0) (aCons (cK (.int 6)) aNil))) aNil))) (cCall (g_law_drawn a) (aCons (cVar 0) (aCons (cK (.int 2)) aNil)))) aNil)))
def q_law_damaged_9 (a : Ad) : CS := (sSet 1 (c2 oAdd (c2 oAdd (cCut (cVar 1) oNone (oSome (cVar 5))) (cLst (aCons (c2 oAdd (c2 oIx (cVar 1) (cVar 5)) (cK (.int 128))) (aCons (cK (.int 0)) aNil)))) (cCut (cVar 1) (oSome (c2 oAdd (cVar 5) (cK (.int 1)))) oNone)))
def q_law_damaged_11 (a : Ad) : CS := (sSet 1 (c2 oAdd (c2 oAdd (cCut (cVar 1) oNone (oSome (cVar 5))) (c2 oIx (cLst (aCons (cLst (aCons (cVar 6) aNil)) (aCons (cLst (aCons (cVar 6) aNil)) (aCons (cLst (aCons (cVar 6) (aCons (c2 oIx (cVar 1) (cVar 5)) aNil))) (aCons (cLst aNil) aNil))))) (cCall (g_law_drawn a) (aCons (cVar 0) (aCons (cK (.int 4)) aNil))))) (cCut (cVar 1) (oSome (c2 oAdd (cVar 5) (cK (.int 1)))) oNone)))
def q_law_damaged_8 (a : Ad) : CS := (sIf (CL.tAnd (tB (c2 oGt (cVar 2) (cK (.int 6)))) (tB (c2 oLt (c2 oIx (cVar 1) (cVar 5)) (cK (.int 128))))) (q_law_damaged_9 a) (q_law_damaged_11 a))
def q_law_damaged_12 (a : Ad) : CS := (sSet 1 (cIf (tB (c2 (oEq true) (cVar 1) (cLst aNil))) (cVar 1) (cLst (aCons (cK (.int 0)) aNil))))
def b_law_damaged_6 (a : Ad) : CS := (sSeq (q_law_damaged_7 a) (sSeq (q_law_damaged_8 a) (q_law_damaged_12 a)))
def q_law_damaged_6 (a : Ad) : CS := (sFor (CL.iRange1 (cCall (g_law_drawn a) (aCons (cVar 0) (aCons (cK (.int 3)) aNil)))) (gN 4) (b_law_damaged_6 a))
def q_law_damaged_13 (a : Ad) : CS := (sRet (cIf (tB (c2 (oEq false) (cVar 2) (cK (.int 2)))) (c2 oAdd (cVar 1) (cCut (cVar 3) (oSome (c2 oSub (cK (.int 0)) (cK (.int 2)))) oNone)) (c2 oAdd (cVar 1) (cCall (g_law_checksum a) (aCons (cVar 1) aNil)))))
theorem nd_law_damaged : ([("_law_state" : Str), ("_law_body_here" : Str), ("_law_branch" : Str), ("_law_octets" : Str), ("_law_change" : Str), ("_law_at" : Str), ("_law_octet" : Str)] : List Str).Nodup := by decide +kernel
def c_law_damaged (a : Ad) : CS := (sSeq (q_law_damaged_1 a) (sSeq (q_law_damaged_2 a) (sSeq (q_law_damaged_4 a) (sSeq (q_law_damaged_6 a) (q_law_damaged_13 a)))))
def g_law_damaged (a : Ad) : G := run 7 (c_law_damaged a)
theorem ok_law_damaged {P : Program} {w : World} {mg : Str → Option Value} {base : Heap} {L : Tl} {a : Ad} (X : Fx mg a) : FnC P w TheK.K mg base L 2 a.f_law_damaged a.d_law_damaged [("_law_state" : Str), ("_law_body_here" : Str)] (g_law_damaged a) := by
  refine fn_d X.F_law_damaged (N := [("_law_state" : Str), ("_law_body_here" : Str), ("_law_branch" : Str), ("_law_octets" : Str), ("_law_change" : Str), ("_law_at" : Str), ("_law_octet" : Str)]) (c := c_law_damaged a) (k := 1) (by conv => lhs; whnf) (by conv => lhs; whnf) ⟨rfl, rfl, rfl, nd_law_damaged, rfl, by decide +kernel, by decide +kernel⟩ ?_
  intro cdv A outer s H E I0 B0 hr
  exact (s_cons (s_par (i := 2) (j := 3) rfl nd_law_damaged rfl rfl (by decide) rfl rfl (a_cons (e_call (ok_law_drawn X) (hr.mono (by decide)) rfl X.m_law_drawn X.F_law_drawn.kp X.b_law_drawn (takes_of rfl rfl rfl rfl) (a_cons (e_var 0) (a_cons e_int a_nil)) (an1 (an1 an0))) (a_cons (e_op op_addA k_add (e_var 1) (e_call (ok_law_checksum X) (hr.mono (by decide)) rfl X.m_law_checksum X.F_law_checksum.kp X.b_law_checksum (takes_of rfl rfl rfl rfl) (a_cons (e_var 1) a_nil) (an1 an0))) a_nil)) rfl) (s_cons (s_if (t_cmp (op_eqD hr.units) k_eq (e_var 2) e_int rfl) (s_one (s_ret (e_cut (e_var 3) o_none (o_some (e_call (ok_law_drawn X) (hr.mono (by decide)) rfl X.m_law_drawn X.F_law_drawn.kp X.b_law_drawn (takes_of rfl rfl rfl rfl) (a_cons (e_var 0) (a_cons (e_op op_addA k_add (e_callB call_len (k_len rfl) rfl X.z_len bt_len (a_cons (e_var 3) a_nil)) e_int) a_nil)) (an1 (an1 an0))))))) s_nil) (s_cons (s_if (t_cmp (op_eqD hr.units) k_eq (e_var 2) e_int rfl) (s_one (s_ret (e_op op_addA k_add (e_var 3) (e_lst (a_cons (e_call (ok_law_drawn X) (hr.mono (by decide)) rfl X.m_law_drawn X.F_law_drawn.kp X.b_law_drawn (takes_of rfl rfl rfl rfl) (a_cons (e_var 0) (a_cons e_int a_nil)) (an1 (an1 an0))) a_nil))))) s_nil) (s_cons (s_for (passes_of rfl) rfl (i_range1 rfl X.z_range (e_call (ok_law_drawn X) (hr.mono (by decide)) rfl X.m_law_drawn X.F_law_drawn.kp X.b_law_drawn (takes_of rfl rfl rfl rfl) (a_cons (e_var 0) (a_cons e_int a_nil)) (an1 (an1 an0)))) (g_name (i := 4) nd_law_damaged rfl (by first | exact Or.inl rfl | exact Or.inr rfl)) (s_cons (s_par (i := 5) (j := 6) rfl nd_law_damaged rfl rfl (by decide) rfl rfl (a_cons (e_call (ok_law_drawn X) (hr.mono (by decide)) rfl X.m_law_drawn X.F_law_drawn.kp X.b_law_drawn (takes_of rfl rfl rfl rfl) (a_cons (e_var 0) (a_cons (e_callB call_len (k_len rfl) rfl X.z_len bt_len (a_cons (e_var 1) a_nil)) a_nil)) (an1 (an1 an0))) (a_cons (e_ix (e_lst (a_cons (e_call (ok_law_drawn X) (hr.mono (by decide)) rfl X.m_law_drawn X.F_law_drawn.kp X.b_law_drawn (takes_of rfl rfl rfl rfl) (a_cons (e_var 0) (a_cons e_int a_nil)) (an1 (an1 an0))) (a_cons (e_call (ok_law_drawn X) (hr.mono (by decide)) rfl X.m_law_drawn X.F_law_drawn.kp X.b_law_drawn (takes_of rfl rfl rfl rfl) (a_cons (e_var 0) (a_cons e_int a_nil)) (an1 (an1 an0))) a_nil))) (e_call (ok_law_drawn X) (hr.mono (by decide)) rfl X.m_law_drawn X.F_law_drawn.kp X.b_law_drawn (takes_of rfl rfl rfl rfl) (a_cons (e_var 0) (a_cons e_int a_nil)) (an1 (an1 an0)))) a_nil)) rfl) (s_cons (s_if (t_w (w_and (t_cmp op_gt k_gt (e_var 2) e_int rfl) (w_and1 (t_cmp op_lt k_lt (e_ix (e_var 1) (e_var 5)) e_int rfl)))) (s_one (s_set (i := 1) nd_law_damaged rfl (by first | exact Or.inl rfl | exact Or.inr rfl) (e_op op_addA k_add (e_op op_addA k_add (e_cut (e_var 1) o_none (o_some (e_var 5))) (e_lst (a_cons (e_op op_addA k_add (e_ix (e_var 1) (e_var 5)) e_int) (a_cons e_int a_nil)))) (e_cut (e_var 1) (o_some (e_op op_addA k_add (e_var 5) e_int)) o_none)))) (s_one (s_set (i := 1) nd_law_damaged rfl (by first | exact Or.inl rfl | exact Or.inr rfl) (e_op op_addA k_add (e_op op_addA k_add (e_cut (e_var 1) o_none (o_some (e_var 5))) (e_ix (e_lst (a_cons (e_lst (a_cons (e_var 6) a_nil)) (a_cons (e_lst (a_cons (e_var 6) a_nil)) (a_cons (e_lst (a_cons (e_var 6) (a_cons (e_ix (e_var 1) (e_var 5)) a_nil))) (a_cons (e_lst a_nil) a_nil))))) (e_call (ok_law_drawn X) (hr.mono (by decide)) rfl X.m_law_drawn X.F_law_drawn.kp X.b_law_drawn (takes_of rfl rfl rfl rfl) (a_cons (e_var 0) (a_cons e_int a_nil)) (an1 (an1 an0))))) (e_cut (e_var 1) (o_some (e_op op_addA k_add (e_var 5) e_int)) o_none))))) (s_one (s_set (i := 1) nd_law_damaged rfl (by first | exact Or.inl rfl | exact Or.inr rfl) (e_if (t_cmp (op_neD hr.units) k_ne (e_var 1) (e_lst a_nil) rfl) (e_var 1) (e_lst (a_cons e_int a_nil)))))))) (s_one (s_ret (e_if (t_cmp (op_eqD hr.units) k_eq (e_var 2) e_int rfl) (e_op op_addA k_add (e_var 1) (e_cut (e_var 3) (o_some (e_op op_sub k_sub e_int e_int)) o_none)) (e_op op_addA k_add (e_var 1) (e_call (ok_law_checksum X) (hr.mono (by decide)) rfl X.m_law_checksum X.F_law_checksum.kp X.b_law_checksum (takes_of rfl rfl rfl rfl) (a_cons (e_var 1) a_nil) (an1 an0))))))))))
def q_law_11 (a : Ad) : CS := (sSet 7 (cCall (g_law_damaged a) (aCons (cVar 1) (aCons (cVar 5) aNil))))
def q_pack_bytes_1 (a : Ad) : CS := (sIf (tNot (tB (cApp bAll (aCons (cLc (CL.iSeq (cVar 0)) (gN 1) tYesC (cChain oLe oLt (cK (.int 0)) (cVar 1) (cK (.int 256))) [1]) aNil)))) (sRaiseM a.C_InvalidCount) sNil)
def q_pack_bytes_3 (a : Ad) : CS := (sRet (cApp bBytes (aCons (cApp bList (aCons (cVar 0) aNil)) aNil)))
theorem nd_pack_bytes : ([("numbers" : Str), ("number" : Str)] : List Str).Nodup := by decide +kernel
def c_pack_bytes (a : Ad) : CS := (sSeq (q_pack_bytes_1 a) (q_pack_bytes_3 a))
def g_pack_bytes (a : Ad) : G := run 2 (c_pack_bytes a)
theorem ok_pack_bytes {P : Program} {w : World} {mg : Str → Option Value} {base : Heap} {L : Tl} {a : Ad} (X : Fx mg a) : FnC P w TheK.K mg base L 3 a.f_pack_bytes a.d_pack_bytes [("numbers" : Str)] (g_pack_bytes a) := by
  refine fn_d X.F_pack_bytes (N := [("numbers" : Str), ("number" : Str)]) (c := c_pack_bytes a) (k := 2) (by conv => lhs; whnf) (by conv => lhs; whnf) ⟨rfl, rfl, rfl, nd_pack_bytes, rfl, by decide +kernel, by decide +kernel⟩ ?_
  intro cdv A outer s H E I0 B0 hr
  exact (s_cons (s_if (CL.t_not (t_val (e_callB (cr_all rfl) (k_all rfl) rfl X.z_all bt_all (a_cons (e_lc rfl nd_pack_bytes (own := [(("number" : Str), 1)]) (by conv => lhs; whnf) (by conv => lhs; whnf) (by decide +kernel) (i_seq (e_var 0)) (fun _ _ _ _ _ => (gw_name (i := 1) nd_pack_bytes rfl (by first | exact Or.inl rfl | exact Or.inr rfl) (by decide))) (fun _ _ _ _ _ => ts_nil) (fun _ _ _ _ _ => (e_chain op_le op_lt k_le k_lt e_int (e_var 1) (e_globI rfl X.m_BYTE)))) a_nil)))) (s_one (s_raiseM rfl (takes_of rfl rfl rfl rfl) X.e_InvalidCount X.kp_InvalidCount (raises_own X.eb_InvalidCount X.et_InvalidCount) rfl X.m_InvalidCount)) s_nil) (s_one (s_ret (e_callTy (call_bytes_list rfl) (k_bytes rfl) rfl X.z_bytes bt_bytes (a_cons (e_callTy call_list_of (k_list rfl) rfl X.z_list bt_list (a_cons (e_var 0) a_nil)) a_nil)))))
def q_law_12 (a : Ad) : CS := (sAsg (cTup (aCons (cDisp (pCons (cK (.str ("octets" : Str))) (cVar 7) (pCons (cK (.str ("at" : Str))) (cK (.int 0)) (pCons (cK (.str ("bad" : Str))) (cK .non) pNil)))) (aCons (cCall (g_pack_bytes a) (aCons (cVar 7) aNil)) aNil))) (CL.gTup 2 (gCons (gN 8) (gCons (gN 9) gNil))))
def q_law_get_1 (a : Ad) : CS := (sIf (tB (c2 xNotN (c2 oDGet (cVar 0) (cK (.str ("bad" : Str)))) (cK .non))) (sRet (cVar 1)) sNil)
def q_law_get_4 (a : Ad) : CS := (sDPut (cVar 0) (cK (.str ("bad" : Str))) (c2 oDGet (cVar 0) (cK (.str ("at" : Str)))))
def q_law_get_3 (a : Ad) : CS := (sIf (CL.tOr (tB (c2 (oEq false) (c2 oDGet (cVar 0) (cK (.str ("at" : Str)))) (cApp bLen (aCons (c2 oDGet (cVar 0) (cK (.str ("octets" : Str)))) aNil)))) (tNot (tB (cChain oLe oLe (cVar 1) (c2 oIx (c2 oDGet (cVar 0) (cK (.str ("octets" : Str)))) (c2 oDGet (cVar 0) (cK (.str ("at" : Str))))) (cVar 2))))) (sSeq (q_law_get_4 a) (sRet (cVar 1))) sNil)
def q_law_get_6 (a : Ad) : CS := (sDPut (cVar 0) (cK (.str ("at" : Str))) (c2 oAdd (c2 oDGet (cVar 0) (cK (.str ("at" : Str)))) (cK (.int 1))))
def q_law_get_7 (a : Ad) : CS := (sRet (c2 oIx (c2 oDGet (cVar 0) (cK (.str ("octets" : Str)))) (c2 oSub (c2 oDGet (cVar 0) (cK (.str ("at" : Str)))) (cK (.int 1)))))
theorem nd_law_get : ([("_law_w" : Str), ("_law_low" : Str), ("_law_high" : Str)] : List Str).Nodup := by decide +kernel
def c_law_get (a : Ad) : CS := (sSeq (q_law_get_1 a) (sSeq (q_law_get_3 a) (sSeq (q_law_get_6 a) (q_law_get_7 a))))
def g_law_get (a : Ad) : G := run 3 (c_law_get a)
theorem ok_law_get {P : Program} {w : World} {mg : Str → Option Value} {base : Heap} {L : Tl} {a : Ad} (X : Fx mg a) : FnC P w TheK.K mg base L 1 a.f_law_get a.d_law_get [("_law_w" : Str), ("_law_low" : Str), ("_law_high" : Str)] (g_law_get a) := by
  refine fn_d X.F_law_get (N := [("_law_w" : Str), ("_law_low" : Str), ("_law_high" : Str)]) (c := c_law_get a) (k := 0) (by conv => lhs; whnf) (by conv => lhs; whnf) ⟨rfl, rfl, rfl, nd_law_get, rfl, by decide +kernel, by decide +kernel⟩ ?_
  intro cdv A outer s H E I0 B0 hr
  exact (s_cons (s_if (t_cmp op_notN k_notN (e_dget (u1 hr.units) (e_var 0) e_str) e_non rfl) (s_one (s_ret (e_var 1))) s_nil) (s_cons (s_if (t_w (w_or (t_cmp (op_eqD hr.units) k_eq (e_dget (u1 hr.units) (e_var 0) e_str) (e_callB call_len (k_len rfl) rfl X.z_len bt_len (a_cons (e_dget (u1 hr.units) (e_var 0) e_str) a_nil)) rfl) (w_or1 (CL.t_not (t_chain op_le op_le k_le k_le (e_var 1) (e_ix (e_dget (u1 hr.units) (e_var 0) e_str) (e_dget (u1 hr.units) (e_var 0) e_str)) (e_var 2)))))) (s_cons (s_dput (u1 hr.units) (e_var 0) e_str (e_dget (u1 hr.units) (e_var 0) e_str)) (s_one (s_ret (e_var 1)))) s_nil) (s_cons (s_dput (u1 hr.units) (e_var 0) e_str (e_op op_addA k_add (e_dget (u1 hr.units) (e_var 0) e_str) e_int)) (s_one (s_ret (e_ix (e_dget (u1 hr.units) (e_var 0) e_str) (e_op op_sub k_sub (e_dget (u1 hr.units) (e_var 0) e_str) e_int)))))))
def q_law_read_1 (a : Ad) : CS := (sExpr (cCall (g_law_get a) (aCons (cVar 0) (aCons (cK (.int 84)) (aCons (cK (.int 84)) aNil)))))
def q_law_read_2 (a : Ad) : CS := (sSet 1 (cCall (g_law_get a) (aCons (cVar 0) (aCons (cK (.int 1)) (aCons (cK (.int 12)) aNil)))))
def q_law_read_5 (a : Ad) : CS := (sSet 4 (cCall (g_law_get a) (aCons (cVar 0) (aCons (cK (.int 0)) (aCons (c2 oSub (cVar 1) (cK (.int 1))) aNil)))))
def q_law_read_6 (a : Ad) : CS := (sSet 5 (c2 oDGet (cVar 0) (cK (.str ("at" : Str)))))
def q_law_read_7 (a : Ad) : CS := (sSet 6 (cCall (g_law_get a) (aCons (cVar 0) (aCons (cK (.int 0)) (aCons (c2 oSub (cVar 1) (cK (.int 1))) aNil)))))
def q_law_fault_2 (a : Ad) : CS := (sDPut (cVar 0) (cK (.str ("bad" : Str))) (cVar 2))
def q_law_fault_1 (a : Ad) : CS := (sIf (CL.tAnd (tB (cVar 1)) (tB (c2 xIsN (c2 oDGet (cVar 0) (cK (.str ("bad" : Str)))) (cK .non)))) (q_law_fault_2 a) sNil)
theorem nd_law_fault : ([("_law_w" : Str), ("_law_wrong" : Str), ("_law_start_here" : Str)] : List Str).Nodup := by decide +kernel
def c_law_fault (a : Ad) : CS := (q_law_fault_1 a)
def g_law_fault (a : Ad) : G := run 3 (c_law_fault a)
theorem ok_law_fault {P : Program} {w : World} {mg : Str → Option Value} {base : Heap} {L : Tl} {a : Ad} (X : Fx mg a) : FnC P w TheK.K mg base L 1 a.f_law_fault a.d_law_fault [("_law_w" : Str), ("_law_wrong" : Str), ("_law_start_here" : Str)] (g_law_fault a) := by
  refine fn_d X.F_law_fault (N := [("_law_w" : Str), ("_law_wrong" : Str), ("_law_start_here" : Str)]) (c := c_law_fault a) (k := 0) (by conv => lhs; whnf) (by conv => lhs; whnf) ⟨rfl, rfl, rfl, nd_law_fault, rfl, by decide +kernel, by decide +kernel⟩ ?_
  intro cdv A outer s H E I0 B0 hr
  exact (s_one (s_if (t_w (w_and (t_val (e_var 1)) (w_and1 (t_cmp op_isN k_isN (e_dget (u1 hr.units) (e_var 0) e_str) e_non rfl)))) (s_one (s_dput (u1 hr.units) (e_var 0) e_str (e_var 2))) s_nil))
def q_law_read_8 (a : Ad) : CS := (sExpr (cCall (g_law_fault a) (aCons (cVar 0) (aCons (c2 (oEq false) (cVar 4) (cVar 6)) (aCons (cVar 5) aNil)))))
def q_law_read_9 (a : Ad) : CS := (sPar 7 5 (aCons (cCall (g_law_get a) (aCons (cVar 0) (aCons (cK (.int 1)) (aCons (cK (.int 99)) aNil)))) (aCons (c2 oDGet (cVar 0) (cK (.str ("at" : Str)))) aNil)))
def q_law_read_10 (a : Ad) : CS := (sAsg (cTup (aCons (cK (.int 0)) (aCons (cK (.int 1)) (aCons (cK (.int 128)) aNil)))) (CL.gTup 3 (gCons (gN 8) (gCons (gN 9) (gCons (gN 10) gNil)))))
def q_law_read_12 (a : Ad) : CS := (sSet 10 (cCall (g_law_get a) (aCons (cVar 0) (aCons (cK (.int 0)) (aCons (cK (.int 255)) aNil)))))
def q_law_read_13 (a : Ad) : CS := (sExpr (cCall (g_law_fault a) (aCons (cVar 0) (aCons (cAnd (c2 (oEq false) (cVar 10) (cK (.int 0))) (c2 oGt (cVar 9) (cK (.int 1)))) (aCons (c2 oSub (c2 oDGet (cVar 0) (cK (.str ("at" : Str)))) (cK (.int 1))) aNil)))))
def q_law_read_14 (a : Ad) : CS := (sSet 8 (c2 oAdd (cVar 8) (c2 oMul (c2 oMod (cApp bInt (aCons (cVar 10) aNil)) (cK (.int 128))) (cVar 9))))
def q_law_read_15 (a : Ad) : CS := (sSet 9 (c2 oMul (cVar 9) (cK (.int 128))))
def b_law_read_11 (a : Ad) : CS := (sSeq (q_law_read_12 a) (sSeq (q_law_read_13 a) (sSeq (q_law_read_14 a) (q_law_read_15 a))))
def q_law_read_11 (a : Ad) : CS := (sWhile 400 (CL.tAnd (tB (c2 oGe (cVar 10) (cK (.int 128)))) (tB (c2 xIsN (c2 oDGet (cVar 0) (cK (.str ("bad" : Str)))) (cK .non)))) (b_law_read_11 a))
def q_law_read_16 (a : Ad) : CS := (sExpr (cCall (g_law_fault a) (aCons (cVar 0) (aCons (c2 oGt (cVar 8) (c2 oPow (cK (.int 10)) (cK (.int 18)))) (aCons (cVar 5) aNil)))))
def q_law_read_17 (a : Ad) : CS := (sAppend 2 (cTup (aCons (cVar 4) (aCons (cVar 6) (aCons (cVar 7) (aCons (cVar 8) aNil))))))
def b_law_read_4 (a : Ad) : CS := (sSeq (q_law_read_5 a) (sSeq (q_law_read_6 a) (sSeq (q_law_read_7 a) (sSeq (q_law_read_8 a) (sSeq (q_law_read_9 a) (sSeq (q_law_read_10 a) (sSeq (q_law_read_11 a) (sSeq (q_law_read_16 a) (q_law_read_17 a)))))))))
def q_law_read_4 (a : Ad) : CS := (sFor (CL.iRange1 (cCall (g_law_get a) (aCons (cVar 0) (aCons (cK (.int 0)) (aCons (cK (.int 24)) aNil))))) (gN 3) (b_law_read_4 a))
def q_law_read_19 (a : Ad) : CS := (sExpr (cCall (g_law_get a) (aCons (cVar 0) (aCons (cVar 10) (aCons (cVar 10) aNil)))))
def q_law_read_18 (a : Ad) : CS := (sFor (CL.iSeq (cCall (g_law_checksum a) (aCons (cCut (c2 oDGet (cVar 0) (cK (.str ("octets" : Str)))) oNone (oSome (c2 oDGet (cVar 0) (cK (.str ("at" : Str)))))) aNil))) (gN 10) (q_law_read_19 a))
def q_law_read_20 (a : Ad) : CS := (sExpr (cCall (g_law_fault a) (aCons (cVar 0) (aCons (c2 oLt (c2 oDGet (cVar 0) (cK (.str ("at" : Str)))) (cApp bLen (aCons (c2 oDGet (cVar 0) (cK (.str ("octets" : Str)))) aNil))) (aCons (c2 oDGet (cVar 0) (cK (.str ("at" : Str)))) aNil)))))
def q_law_read_21 (a : Ad) : CS := (sFrz 2 (sRet (cTup (aCons (cVar 1) (aCons (cApp bTuple (aCons (cVar 2) aNil)) aNil)))))
theorem nd_law_read : ([("_law_w" : Str), ("_law_count" : Str), ("_law_bridges_here" : Str), ("_law_k" : Str), ("_law_one" : Str), ("_law_start_here" : Str), ("_law_other" : Str), ("_law_length" : Str), ("_law_total" : Str), ("_law_weight" : Str), ("_law_octet" : Str)] : List Str).Nodup := by decide +kernel
def c_law_read (a : Ad) : CS := (sSeq (q_law_read_1 a) (sSeq (q_law_read_2 a) (sSeq (sSetL 2 (cLst aNil)) (sSeq (q_law_read_4 a) (sSeq (q_law_read_18 a) (sSeq (q_law_read_20 a) (q_law_read_21 a)))))))
def g_law_read (a : Ad) : G := run 11 (c_law_read a)
theorem ok_law_read {P : Program} {w : World} {mg : Str → Option Value} {base : Heap} {L : Tl} {a : Ad} (X : Fx mg a) : FnC P w TheK.K mg base L 2 a.f_law_read a.d_law_read [("_law_w" : Str)] (g_law_read a) := by
  refine fn_d X.F_law_read (N := [("_law_w" : Str), ("_law_count" : Str), ("_law_bridges_here" : Str), ("_law_k" : Str), ("_law_one" : Str), ("_law_start_here" : Str), ("_law_other" : Str), ("_law_length" : Str), ("_law_total" : Str), ("_law_weight" : Str), ("_law_octet" : Str)]) (c := c_law_read a) (k := 1) (by conv => lhs; whnf) (by conv => lhs; whnf) ⟨rfl, rfl, rfl, nd_law_read, rfl, by decide +kernel, by decide +kernel⟩ ?_
  intro cdv A outer s H E I0 B0 hr
  exact (s_cons (s_expr (e_call (ok_law_get X) (hr.mono (by decide)) rfl X.m_law_get X.F_law_get.kp X.b_law_get (takes_of rfl rfl rfl rfl) (a_cons (e_var 0) (a_cons e_int (a_cons e_int a_nil))) (an1 (an1 (an1 an0))))) (s_cons (s_set (i := 1) nd_law_read rfl (by first | exact Or.inl rfl | exact Or.inr rfl) (e_call (ok_law_get X) (hr.mono (by decide)) rfl X.m_law_get X.F_law_get.kp X.b_law_get (takes_of rfl rfl rfl rfl) (a_cons (e_var 0) (a_cons e_int (a_cons e_int a_nil))) (an1 (an1 (an1 an0))))) (s_cons (s_setL (i := 2) nd_law_read rfl (Or.inl rfl) (f_lst a_nil)) (s_cons (s_for (passes_of rfl) rfl (i_range1 rfl X.z_range (e_call (ok_law_get X) (hr.mono (by decide)) rfl X.m_law_get X.F_law_get.kp X.b_law_get (takes_of rfl rfl rfl rfl) (a_cons (e_var 0) (a_cons e_int (a_cons e_int a_nil))) (an1 (an1 (an1 an0))))) (g_name (i := 3) nd_law_read rfl (by first | exact Or.inl rfl | exact Or.inr rfl)) (s_cons (s_set (i := 4) nd_law_read rfl (by first | exact Or.inl rfl | exact Or.inr rfl) (e_call (ok_law_get X) (hr.mono (by decide)) rfl X.m_law_get X.F_law_get.kp X.b_law_get (takes_of rfl rfl rfl rfl) (a_cons (e_var 0) (a_cons e_int (a_cons (e_op op_sub k_sub (e_var 1) e_int) a_nil))) (an1 (an1 (an1 an0))))) (s_cons (s_set (i := 5) nd_law_read rfl (by first | exact Or.inl rfl | exact Or.inr rfl) (e_dget (u1 hr.units) (e_var 0) e_str)) (s_cons (s_set (i := 6) nd_law_read rfl (by first | exact Or.inl rfl | exact Or.inr rfl) (e_call (ok_law_get X) (hr.mono (by decide)) rfl X.m_law_get X.F_law_get.kp X.b_law_get (takes_of rfl rfl rfl rfl) (a_cons (e_var 0) (a_cons e_int (a_cons (e_op op_sub k_sub (e_var 1) e_int) a_nil))) (an1 (an1 (an1 an0))))) (s_cons (s_expr (e_call (ok_law_fault X) (hr.mono (by decide)) rfl X.m_law_fault X.F_law_fault.kp X.b_law_fault (takes_of rfl rfl rfl rfl) (a_cons (e_var 0) (a_cons (e_cmp (op_eqD hr.units) k_eq (e_var 4) (e_var 6) rfl) (a_cons (e_var 5) a_nil))) (an1 (an1 (an1 an0))))) (s_cons (s_par (i := 7) (j := 5) rfl nd_law_read rfl rfl (by decide) rfl rfl (a_cons (e_call (ok_law_get X) (hr.mono (by decide)) rfl X.m_law_get X.F_law_get.kp X.b_law_get (takes_of rfl rfl rfl rfl) (a_cons (e_var 0) (a_cons e_int (a_cons e_int a_nil))) (an1 (an1 (an1 an0)))) (a_cons (e_dget (u1 hr.units) (e_var 0) e_str) a_nil)) rfl) (s_cons (s_asg (e_tup (a_cons e_int (a_cons e_int (a_cons e_int a_nil)))) (g_tup rfl (g_cons (g_name (i := 8) nd_law_read rfl (by first | exact Or.inl rfl | exact Or.inr rfl)) (g_cons (g_name (i := 9) nd_law_read rfl (by first | exact Or.inl rfl | exact Or.inr rfl)) (g_cons (g_name (i := 10) nd_law_read rfl (by first | exact Or.inl rfl | exact Or.inr rfl)) g_nil))))) (s_cons (s_while 400 (passes_of rfl) (t_w (w_and (t_cmp op_ge k_ge (e_var 10) e_int rfl) (w_and1 (t_cmp op_isN k_isN (e_dget (u1 hr.units) (e_var 0) e_str) e_non rfl)))) (s_cons (s_set (i := 10) nd_law_read rfl (by first | exact Or.inl rfl | exact Or.inr rfl) (e_call (ok_law_get X) (hr.mono (by decide)) rfl X.m_law_get X.F_law_get.kp X.b_law_get (takes_of rfl rfl rfl rfl) (a_cons (e_var 0) (a_cons e_int (a_cons e_int a_nil))) (an1 (an1 (an1 an0))))) (s_cons (s_expr (e_call (ok_law_fault X) (hr.mono (by decide)) rfl X.m_law_fault X.F_law_fault.kp X.b_law_fault (takes_of rfl rfl rfl rfl) (a_cons (e_var 0) (a_cons (e_and (e_cmp (op_eqD hr.units) k_eq (e_var 10) e_int rfl) (e_one (e_cmp op_gt k_gt (e_var 9) e_int rfl))) (a_cons (e_op op_sub k_sub (e_dget (u1 hr.units) (e_var 0) e_str) e_int) a_nil))) (an1 (an1 (an1 an0))))) (s_cons (s_set (i := 8) nd_law_read rfl (by first | exact Or.inl rfl | exact Or.inr rfl) (e_op op_addA k_add (e_var 8) (e_op op_mulA k_mul (e_op op_mod k_mod (e_callTy call_int1 (k_int) rfl X.z_int bt_int (a_cons (e_var 10) a_nil)) e_int) (e_var 9)))) (s_one (s_set (i := 9) nd_law_read rfl (by first | exact Or.inl rfl | exact Or.inr rfl) (e_op op_mulA k_mul (e_var 9) e_int))))))) (s_cons (s_expr (e_call (ok_law_fault X) (hr.mono (by decide)) rfl X.m_law_fault X.F_law_fault.kp X.b_law_fault (takes_of rfl rfl rfl rfl) (a_cons (e_var 0) (a_cons (e_cmp op_gt k_gt (e_var 8) (e_op op_pow k_pow e_int e_int) rfl) (a_cons (e_var 5) a_nil))) (an1 (an1 (an1 an0))))) (s_one (s_append (i := 2) (pv 2) (e_tup (a_cons (e_var 4) (a_cons (e_var 6) (a_cons (e_var 7) (a_cons (e_var 8) a_nil)))))))))))))))) (s_cons (s_for (passes_of rfl) rfl (i_seq (e_call (ok_law_checksum X) (hr.mono (by decide)) rfl X.m_law_checksum X.F_law_checksum.kp X.b_law_checksum (takes_of rfl rfl rfl rfl) (a_cons (e_cut (e_dget (u1 hr.units) (e_var 0) e_str) o_none (o_some (e_dget (u1 hr.units) (e_var 0) e_str))) a_nil) (an1 an0))) (g_name (i := 10) nd_law_read rfl (by first | exact Or.inl rfl | exact Or.inr rfl)) (s_one (s_expr (e_call (ok_law_get X) (hr.mono (by decide)) rfl X.m_law_get X.F_law_get.kp X.b_law_get (takes_of rfl rfl rfl rfl) (a_cons (e_var 0) (a_cons (e_var 10) (a_cons (e_var 10) a_nil))) (an1 (an1 (an1 an0))))))) (s_cons (s_expr (e_call (ok_law_fault X) (hr.mono (by decide)) rfl X.m_law_fault X.F_law_fault.kp X.b_law_fault (takes_of rfl rfl rfl rfl) (a_cons (e_var 0) (a_cons (e_cmp op_lt k_lt (e_dget (u1 hr.units) (e_var 0) e_str) (e_callB call_len (k_len rfl) rfl X.z_len bt_len (a_cons (e_dget (u1 hr.units) (e_var 0) e_str) a_nil)) rfl) (a_cons (e_dget (u1 hr.units) (e_var 0) e_str) a_nil))) (an1 (an1 (an1 an0))))) (s_one (s_frz (i := 2) (s_ret (e_tup (a_cons (e_var 1) (a_cons (e_callTy call_tuple_of (k_tuple rfl) rfl X.z_tuple bt_tuple (a_cons (e_var 2) a_nil)) a_nil))))))))))))
def q_law_13 (a : Ad) : CS := (sSet 10 (cCall (g_law_read a) (aCons (cVar 8) aNil)))
def q_law_outcome_6 (a : Ad) (ac : List D → Store → R D) : CS := (sRet (cTup (aCons (cK (.str ("InvalidData" : Str))) (aCons (cXf a.C_InvalidData ("offset" : Str) 1) aNil))))
def q_law_outcome_4 (a : Ad) (ac : List D → Store → R D) : CS := (sRet (cTup (aCons (cK (.str ("InvalidCount" : Str))) aNil)))
def q_law_outcome_1 (a : Ad) (ac : List D → Store → R D) : CS := (sTryM (sRet (cActF 0 ac fun _ S => .ok [] S)) [(exm_InvalidCount a, none, (q_law_outcome_4 a ac)), (exm_InvalidData a, some 1, (q_law_outcome_6 a ac))])
abbrev st_law_outcome : Stmt := top 27
theorem nd_law_outcome : ([("_law_work" : Str), ("e" : Str)] : List Str).Nodup := by decide +kernel
theorem sc_law_outcome : FnScope [("_law_work" : Str), ("e" : Str)] [("_law_work" : Str)] (defScope st_law_outcome) := ⟨rfl, rfl, rfl, by decide +kernel, rfl, by decide +kernel, by decide +kernel⟩
def cb_law_outcome (a : Ad) (ac : List D → Store → R D) : CS := (q_law_outcome_1 a ac)
theorem body_law_outcome {P : Program} {w : World} {mg : Str → Option Value} {base : Heap} {a : Ad} (X : Fx mg a) {A : Around} {outer : List Env} {cdg : Value} {s : Shared} {H : Hp} {I0 : List Addr} {B0 : Hp} {L : Tl} {FF : Option (Addr × List Addr × Hp × Hp)} {ac : List D → Store → R D} {k : Nat} (hr : Room (k + 1) (A.deeper (envOfC ("_law_outcome" : Str) (defScope st_law_outcome) s.heap.objs.size a.f_law_outcome cdg))) (hk : 0 ≤ k + 1)
    (hac : ActOk s H (frs outer) P w TheK.K mg base k ("_law_work" : Str) L FF ac) :
    PSs (cxOf C8.CX0 P w TheK.K mg base [("_law_work" : Str), ("e" : Str)] ("_law_outcome" : Str) (defScope st_law_outcome) a.f_law_outcome cdg A outer s H C8.E0).nox (defBody st_law_outcome) (rdS ⟨L, none, FF⟩ I0 B0 H wNo (cb_law_outcome a ac)) := by
  refine body_n (c := cb_law_outcome a ac) (by conv => lhs; whnf) (by conv => lhs; whnf) ?_ hr
  clear hr
  intro hr0
  have hr := hr0.mono hk
  exact (s_one (s_tryM rfl rfl takes0 (fun W pn xe tk hp => (s_one (s_ret (hac.call0 _ _ 0 _ _ rfl rfl rfl rfl rfl ⟨fun J => J.base⟩ tk hr0 rfl rfl (by first | exact Or.inl rfl | exact Or.inr (Or.inl rfl) | exact Or.inr (Or.inr rfl)))))) (.only (c := .ref a.C_InvalidCount) ⟨rfl, by decide, .inl X.m_InvalidCount⟩ (exm_InvalidCount_ok X) (fun b oe cls d pn hz hf => (s_one (s_ret (e_tup (a_cons e_str a_nil))))) (.as_ (i := 1) nd_law_outcome rfl rfl (c := .ref a.C_InvalidData) ⟨rfl, by decide, .inl X.m_InvalidData⟩ (exm_InvalidData_ok X) (fun b oe cls d pn hz hf => (s_one (s_ret (e_tup (a_cons e_str (a_cons (e_xf (i := 1) hz hf rfl (Or.inl rfl) X.xf_InvalidData X.n_InvalidData_offset) a_nil)))))) .nil))))
def q_TownReader_fail_1 (a : Ad) : CS := (sRaiseK a.C_InvalidData [("offset" : Str)] (aCons (cVar 1) aNil))
theorem nd_TownReader_fail : ([("self" : Str), ("offset" : Str)] : List Str).Nodup := by decide +kernel
def c_TownReader_fail (a : Ad) : CS := (q_TownReader_fail_1 a)
def g_TownReader_fail (a : Ad) : G := run 2 (c_TownReader_fail a)
theorem ok_TownReader_fail {P : Program} {w : World} {mg : Str → Option Value} {base : Heap} {L : Tl} {a : Ad} (X : Fx mg a) : FnC P w TheK.K mg base L 3 a.f_TownReader_fail a.d_TownReader_fail [("self" : Str), ("offset" : Str)] (g_TownReader_fail a) := by
  refine fn_d X.F_TownReader_fail (N := [("self" : Str), ("offset" : Str)]) (c := c_TownReader_fail a) (k := 2) (by conv => lhs; whnf) (by conv => lhs; whnf) ⟨rfl, rfl, rfl, nd_TownReader_fail, rfl, by decide +kernel, by decide +kernel⟩ ?_
  intro cdv A outer s H E I0 B0 hr
  exact (s_one (s_raiseK rfl (takes_of rfl rfl rfl rfl) (X.x_InvalidData w base) (hr.mono (by decide)) rfl X.m_InvalidData (kw_cons (e_var 1) kw_nil)))
def q_TownReader_read_2 (a : Ad) : CS := (sExpr (cMeth a.C_TownReader ("fail" : Str) (g_TownReader_fail a) (cVar 0) (aCons (cFld a.C_TownReader ("cursor" : Str) (cVar 0)) aNil)))
def q_TownReader_read_1 (a : Ad) : CS := (sIf (CL.tOr (tB (c2 (oEq false) (cFld a.C_TownReader ("cursor" : Str) (cVar 0)) (cApp bLen (aCons (cFld a.C_TownReader ("octets" : Str) (cVar 0)) aNil)))) (tNot (tB (cChain oLe oLe (cVar 1) (c2 oIx (cFld a.C_TownReader ("octets" : Str) (cVar 0)) (cFld a.C_TownReader ("cursor" : Str) (cVar 0))) (cVar 2))))) (q_TownReader_read_2 a) sNil)
def q_TownReader_read_3 (a : Ad) : CS := (sFldAugC a.C_TownReader ("cursor" : Str) (fun i j => i + j) (cVar 0) (cK (.int 1)))
def q_TownReader_read_4 (a : Ad) : CS := (sRet (c2 oIx (cFld a.C_TownReader ("octets" : Str) (cVar 0)) (c2 oSub (cFld a.C_TownReader ("cursor" : Str) (cVar 0)) (cK (.int 1)))))
theorem nd_TownReader_read : ([("self" : Str), ("smallest" : Str), ("largest" : Str)] : List Str).Nodup := by decide +kernel
def c_TownReader_read (a : Ad) : CS := (sSeq (q_TownReader_read_1 a) (sSeq (q_TownReader_read_3 a) (q_TownReader_read_4 a)))
def g_TownReader_read (a : Ad) : G := run 3 (c_TownReader_read a)
theorem ok_TownReader_read {P : Program} {w : World} {mg : Str → Option Value} {base : Heap} {L : Tl} {a : Ad} (X : Fx mg a) : FnC P w TheK.K mg base L 4 a.f_TownReader_read a.d_TownReader_read [("self" : Str), ("smallest" : Str), ("largest" : Str)] (g_TownReader_read a) := by
  refine fn_d X.F_TownReader_read (N := [("self" : Str), ("smallest" : Str), ("largest" : Str)]) (c := c_TownReader_read a) (k := 3) (by conv => lhs; whnf) (by conv => lhs; whnf) ⟨rfl, rfl, rfl, nd_TownReader_read, rfl, by decide +kernel, by decide +kernel⟩ ?_
  intro cdv A outer s H E I0 B0 hr
  exact (s_cons (s_if (t_w (w_or (t_cmp (op_eqD hr.units) k_eq (e_fld ("cursor" : Str) (e_var 0) X.c_TownReader X.n_TownReader_cursor) (e_callB call_len (k_len rfl) rfl X.z_len bt_len (a_cons (e_fld ("octets" : Str) (e_var 0) X.c_TownReader X.n_TownReader_octets) a_nil)) rfl) (w_or1 (CL.t_not (t_chain op_le op_le k_le k_le (e_var 1) (e_ix (e_fld ("octets" : Str) (e_var 0) X.c_TownReader X.n_TownReader_octets) (e_fld ("cursor" : Str) (e_var 0) X.c_TownReader X.n_TownReader_cursor)) (e_var 2)))))) (s_one (s_expr (e_meth (e_var 0) X.c_TownReader X.q_TownReader_fail (ok_TownReader_fail X) (hr.mono (by decide)) X.b_TownReader_fail (passes_call (takes_of rfl rfl rfl rfl) fun _ _ _ _ h => h) (a_cons (e_fld ("cursor" : Str) (e_var 0) X.c_TownReader X.n_TownReader_cursor) a_nil) (an1 an0) rfl))) s_nil) (s_cons (s_fldaug (e_var 0) e_int io_add X.c_TownReader X.n_TownReader_cursor) (s_one (s_ret (e_ix (e_fld ("octets" : Str) (e_var 0) X.c_TownReader X.n_TownReader_octets) (e_op op_sub k_sub (e_fld ("cursor" : Str) (e_var 0) X.c_TownReader X.n_TownReader_cursor) e_int))))))
def q_TownReader_read_town_1 (a : Ad) : CS := (sExpr (cMeth a.C_TownReader ("read" : Str) (g_TownReader_read a) (cVar 0) (aCons (cK (.int 84)) (aCons (cK (.int 84)) aNil))))
def q_TownReader_read_town_2 (a : Ad) : CS := (sSet 1 (cMeth a.C_TownReader ("read" : Str) (g_TownReader_read a) (cVar 0) (aCons (cK (.int 1)) (aCons (cVal a.C_Town (.int 12) (cK (.ref a.C_Town))) aNil))))
def q_TownReader_read_town_3 (a : Ad) : CS := (sSet 2 (cMeth a.C_TownReader ("read" : Str) (g_TownReader_read a) (cVar 0) (aCons (cK (.int 0)) (aCons (cVal a.C_Town (.int 24) (cK (.ref a.C_Town))) aNil))))
def q_TownReader_read_bridge_1 (a : Ad) : CS := (sSet 2 (cMeth a.C_TownReader ("read" : Str) (g_TownReader_read a) (cVar 0) (aCons (cK (.int 0)) (aCons (c2 oSub (cVar 1) (cK (.int 1))) aNil))))
def q_TownReader_read_bridge_2 (a : Ad) : CS := (sSet 3 (cFld a.C_TownReader ("cursor" : Str) (cVar 0)))
def q_TownReader_read_bridge_3 (a : Ad) : CS := (sSet 4 (cMeth a.C_TownReader ("read" : Str) (g_TownReader_read a) (cVar 0) (aCons (cK (.int 0)) (aCons (c2 oSub (cVar 1) (cK (.int 1))) aNil))))
def q_TownReader_read_bridge_5 (a : Ad) : CS := (sExpr (cMeth a.C_TownReader ("fail" : Str) (g_TownReader_fail a) (cVar 0) (aCons (cVar 3) aNil)))
def q_TownReader_read_bridge_4 (a : Ad) : CS := (sIf (tB (c2 (oEq false) (cVar 2) (cVar 4))) (q_TownReader_read_bridge_5 a) sNil)
def q_TownReader_read_life_1 (a : Ad) : CS := (sPar3 1 2 3 (aCons (cFld a.C_TownReader ("cursor" : Str) (cVar 0)) (aCons (cK (.int 0)) (aCons (cK (.int 1)) aNil))))
def q_TownReader_read_life_4 (a : Ad) : CS := (sSet 4 (cMeth a.C_TownReader ("read" : Str) (g_TownReader_read a) (cVar 0) (aCons (cK (.int 0)) (aCons (c2 oSub (cK (.int 256)) (cK (.int 1))) aNil))))
def q_TownReader_read_life_6 (a : Ad) : CS := (sExpr (cMeth a.C_TownReader ("fail" : Str) (g_TownReader_fail a) (cVar 0) (aCons (c2 oSub (cFld a.C_TownReader ("cursor" : Str) (cVar 0)) (cK (.int 1))) aNil)))
def q_TownReader_read_life_5 (a : Ad) : CS := (sIf (CL.tAnd (tB (c2 (oEq false) (cVar 4) (cK (.int 0)))) (tB (c2 oGt (cVar 3) (cK (.int 1))))) (q_TownReader_read_life_6 a) sNil)
def q_TownReader_read_life_7 (a : Ad) : CS := (sAug 2 (fun i j => i + j) (c2 oMul (c2 oMod (cApp bInt (aCons (cVar 4) aNil)) (cK (.int 128))) (cVar 3)))
def b_TownReader_read_life_3 (a : Ad) : CS := (sSeq (q_TownReader_read_life_4 a) (sSeq (q_TownReader_read_life_5 a) (sSeq (q_TownReader_read_life_7 a) (sAugM 3 (cK (.int 128))))))
def q_TownReader_read_life_3 (a : Ad) : CS := (sWhile 400 (tB (c2 oGe (cVar 4) (cK (.int 128)))) (b_TownReader_read_life_3 a))
def q_TownReader_read_life_10 (a : Ad) : CS := (sExpr (cMeth a.C_TownReader ("fail" : Str) (g_TownReader_fail a) (cVar 0) (aCons (cVar 1) aNil)))
def q_TownReader_read_life_9 (a : Ad) : CS := (sIf (tB (c2 oGt (cVar 2) (cVal a.C_Town (.int 1000000000000000000) (cK (.ref a.C_Town))))) (q_TownReader_read_life_10 a) sNil)
theorem nd_TownReader_read_life : ([("self" : Str), ("start" : Str), ("total" : Str), ("weight" : Str), ("octet" : Str)] : List Str).Nodup := by decide +kernel
def c_TownReader_read_life (a : Ad) : CS := (sSeq (q_TownReader_read_life_1 a) (sSeq (sSet 4 (cK (.int 128))) (sSeq (q_TownReader_read_life_3 a) (sSeq (q_TownReader_read_life_9 a) (sRet (cVar 2))))))
def g_TownReader_read_life (a : Ad) : G := run 5 (c_TownReader_read_life a)
theorem ok_TownReader_read_life {P : Program} {w : World} {mg : Str → Option Value} {base : Heap} {L : Tl} {a : Ad} (X : Fx mg a) : FnC P w TheK.K mg base L 5 a.f_TownReader_read_life a.d_TownReader_read_life [("self" : Str)] (g_TownReader_read_life a) := by
  refine fn_d X.F_TownReader_read_life (N := [("self" : Str), ("start" : Str), ("total" : Str), ("weight" : Str), ("octet" : Str)]) (c := c_TownReader_read_life a) (k := 4) (by conv => lhs; whnf) (by conv => lhs; whnf) ⟨rfl, rfl, rfl, nd_TownReader_read_life, rfl, by decide +kernel, by decide +kernel⟩ ?_
  intro cdv A outer s H E I0 B0 hr
  exact (s_cons (s_par3 (i := 1) (j := 2) (l := 3) rfl nd_TownReader_read_life rfl rfl rfl (by decide) (by decide) (by decide) rfl rfl rfl (a_cons (e_fld ("cursor" : Str) (e_var 0) X.c_TownReader X.n_TownReader_cursor) (a_cons e_int (a_cons e_int a_nil))) rfl) (s_cons (s_set (i := 4) nd_TownReader_read_life rfl (by first | exact Or.inl rfl | exact Or.inr rfl) (e_globI rfl X.m_GROUP)) (s_cons (s_while 400 (passes_of rfl) (t_cmp op_ge k_ge (e_var 4) (e_globI rfl X.m_GROUP) rfl) (s_cons (s_set (i := 4) nd_TownReader_read_life rfl (by first | exact Or.inl rfl | exact Or.inr rfl) (e_meth (e_var 0) X.c_TownReader X.q_TownReader_read (ok_TownReader_read X) (hr.mono (by decide)) X.b_TownReader_read (passes_call (takes_of rfl rfl rfl rfl) fun _ _ _ _ h => h) (a_cons e_int (a_cons (e_op op_sub k_sub (e_globI rfl X.m_BYTE) e_int) a_nil)) (an1 (an1 an0)) rfl)) (s_cons (s_if (t_w (w_and (t_cmp (op_eqD hr.units) k_eq (e_var 4) e_int rfl) (w_and1 (t_cmp op_gt k_gt (e_var 3) e_int rfl)))) (s_one (s_expr (e_meth (e_var 0) X.c_TownReader X.q_TownReader_fail (ok_TownReader_fail X) (hr.mono (by decide)) X.b_TownReader_fail (passes_call (takes_of rfl rfl rfl rfl) fun _ _ _ _ h => h) (a_cons (e_op op_sub k_sub (e_fld ("cursor" : Str) (e_var 0) X.c_TownReader X.n_TownReader_cursor) e_int) a_nil) (an1 an0) rfl))) s_nil) (s_cons (s_aug (i := 2) nd_TownReader_read_life rfl (by first | exact Or.inl rfl | exact Or.inr rfl) (e_op op_mulA k_mul (e_op op_mod k_mod (e_callTy call_int1 (k_int) rfl X.z_int bt_int (a_cons (e_var 4) a_nil)) (e_globI rfl X.m_GROUP)) (e_var 3)) ip_add) (s_one (s_augM (i := 3) nd_TownReader_read_life rfl (by first | exact Or.inl rfl | exact Or.inr rfl) (e_globI rfl X.m_GROUP))))))) (s_cons (s_if (t_cmp op_gt k_gt (e_var 2) (e_cval (e_glob rfl X.m_Town) X.r_Town X.v_Town_MAX_LIFE fun _ _ => rfl) rfl) (s_one (s_expr (e_meth (e_var 0) X.c_TownReader X.q_TownReader_fail (ok_TownReader_fail X) (hr.mono (by decide)) X.b_TownReader_fail (passes_call (takes_of rfl rfl rfl rfl) fun _ _ _ _ h => h) (a_cons (e_var 1) a_nil) (an1 an0) rfl))) s_nil) (s_one (s_ret (e_var 2)))))))
def q_TownReader_read_bridge_6 (a : Ad) : CS := (sRet (cTup (aCons (cVar 2) (aCons (cVar 4) (aCons (cMeth a.C_TownReader ("read" : Str) (g_TownReader_read a) (cVar 0) (aCons (cK (.int 1)) (aCons (cK (.int 99)) aNil))) (aCons (cMeth a.C_TownReader ("read_life" : Str) (g_TownReader_read_life a) (cVar 0) aNil) aNil))))))
theorem nd_TownReader_read_bridge : ([("self" : Str), ("count" : Str), ("one" : Str), ("start" : Str), ("other" : Str)] : List Str).Nodup := by decide +kernel
def c_TownReader_read_bridge (a : Ad) : CS := (sSeq (q_TownReader_read_bridge_1 a) (sSeq (q_TownReader_read_bridge_2 a) (sSeq (q_TownReader_read_bridge_3 a) (sSeq (q_TownReader_read_bridge_4 a) (q_TownReader_read_bridge_6 a)))))
def g_TownReader_read_bridge (a : Ad) : G := run 5 (c_TownReader_read_bridge a)
theorem ok_TownReader_read_bridge {P : Program} {w : World} {mg : Str → Option Value} {base : Heap} {L : Tl} {a : Ad} (X : Fx mg a) : FnC P w TheK.K mg base L 6 a.f_TownReader_read_bridge a.d_TownReader_read_bridge [("self" : Str), ("count" : Str)] (g_TownReader_read_bridge a) := by
  refine fn_d X.F_TownReader_read_bridge (N := [("self" : Str), ("count" : Str), ("one" : Str), ("start" : Str), ("other" : Str)]) (c := c_TownReader_read_bridge a) (k := 5) (by conv => lhs; whnf) (by conv => lhs; whnf) ⟨rfl, rfl, rfl, nd_TownReader_read_bridge, rfl, by decide +kernel, by decide +kernel⟩ ?_
  intro cdv A outer s H E I0 B0 hr
  exact (s_cons (s_set (i := 2) nd_TownReader_read_bridge rfl (by first | exact Or.inl rfl | exact Or.inr rfl) (e_meth (e_var 0) X.c_TownReader X.q_TownReader_read (ok_TownReader_read X) (hr.mono (by decide)) X.b_TownReader_read (passes_call (takes_of rfl rfl rfl rfl) fun _ _ _ _ h => h) (a_cons e_int (a_cons (e_op op_sub k_sub (e_var 1) e_int) a_nil)) (an1 (an1 an0)) rfl)) (s_cons (s_set (i := 3) nd_TownReader_read_bridge rfl (by first | exact Or.inl rfl | exact Or.inr rfl) (e_fld ("cursor" : Str) (e_var 0) X.c_TownReader X.n_TownReader_cursor)) (s_cons (s_set (i := 4) nd_TownReader_read_bridge rfl (by first | exact Or.inl rfl | exact Or.inr rfl) (e_meth (e_var 0) X.c_TownReader X.q_TownReader_read (ok_TownReader_read X) (hr.mono (by decide)) X.b_TownReader_read (passes_call (takes_of rfl rfl rfl rfl) fun _ _ _ _ h => h) (a_cons e_int (a_cons (e_op op_sub k_sub (e_var 1) e_int) a_nil)) (an1 (an1 an0)) rfl)) (s_cons (s_if (t_cmp (op_eqD hr.units) k_eq (e_var 2) (e_var 4) rfl) (s_one (s_expr (e_meth (e_var 0) X.c_TownReader X.q_TownReader_fail (ok_TownReader_fail X) (hr.mono (by decide)) X.b_TownReader_fail (passes_call (takes_of rfl rfl rfl rfl) fun _ _ _ _ h => h) (a_cons (e_var 3) a_nil) (an1 an0) rfl))) s_nil) (s_one (s_ret (e_tup (a_cons (e_var 2) (a_cons (e_var 4) (a_cons (e_meth (e_var 0) X.c_TownReader X.q_TownReader_read (ok_TownReader_read X) (hr.mono (by decide)) X.b_TownReader_read (passes_call (takes_of rfl rfl rfl rfl) fun _ _ _ _ h => h) (a_cons e_int (a_cons (e_globI rfl X.m_MAX_LENGTH) a_nil)) (an1 (an1 an0)) rfl) (a_cons (e_meth0 (e_var 0) X.c_TownReader X.q_TownReader_read_life (ok_TownReader_read_life X) (hr.mono (by decide)) X.b_TownReader_read_life (passes_call (takes_of rfl rfl rfl rfl) fun _ _ _ _ h => h) rfl) a_nil)))))))))))
def q_TownReader_read_town_4 (a : Ad) : CS := (sSet 3 (cApp bTuple (aCons (cLcX (CL.iRange1 (cVar 2)) (gN 5) tYesC (cMeth a.C_TownReader ("read_bridge" : Str) (g_TownReader_read_bridge a) (cVar 0) (aCons (cVar 1) aNil)) [5]) aNil)))
def q_TownReader_read_town_6 (a : Ad) : CS := (sExpr (cMeth a.C_TownReader ("read" : Str) (g_TownReader_read a) (cVar 0) (aCons (cVar 4) (aCons (cVar 4) aNil))))
def q_TownReader_read_town_5 (a : Ad) : CS := (sFor (CL.iSeq (cCall (g_checksum a) (aCons (cCut (cFld a.C_TownReader ("octets" : Str) (cVar 0)) oNone (oSome (cFld a.C_TownReader ("cursor" : Str) (cVar 0)))) aNil))) (gN 4) (q_TownReader_read_town_6 a))
def q_TownReader_read_town_8 (a : Ad) : CS := (sExpr (cMeth a.C_TownReader ("fail" : Str) (g_TownReader_fail a) (cVar 0) (aCons (cFld a.C_TownReader ("cursor" : Str) (cVar 0)) aNil)))
def q_TownReader_read_town_7 (a : Ad) : CS := (sIf (tB (c2 oLt (cFld a.C_TownReader ("cursor" : Str) (cVar 0)) (cApp bLen (aCons (cFld a.C_TownReader ("octets" : Str) (cVar 0)) aNil)))) (q_TownReader_read_town_8 a) sNil)
def q_TownReader_read_town_9 (a : Ad) : CS := (sRet (cMake a.C_Town (g_Town__init a) (aCons (cVar 1) (aCons (cVar 3) aNil))))
theorem nd_TownReader_read_town : ([("self" : Str), ("count" : Str), ("size" : Str), ("bridges" : Str), ("octet" : Str), ("bridge" : Str)] : List Str).Nodup := by decide +kernel
def c_TownReader_read_town (a : Ad) : CS := (sSeq (q_TownReader_read_town_1 a) (sSeq (q_TownReader_read_town_2 a) (sSeq (q_TownReader_read_town_3 a) (sSeq (q_TownReader_read_town_4 a) (sSeq (q_TownReader_read_town_5 a) (sSeq (q_TownReader_read_town_7 a) (q_TownReader_read_town_9 a)))))))
def g_TownReader_read_town (a : Ad) : G := run 6 (c_TownReader_read_town a)
theorem ok_TownReader_read_town {P : Program} {w : World} {mg : Str → Option Value} {base : Heap} {L : Tl} {a : Ad} (X : Fx mg a) : FnC P w TheK.K mg base L 7 a.f_TownReader_read_town a.d_TownReader_read_town [("self" : Str)] (g_TownReader_read_town a) := by
  refine fn_d X.F_TownReader_read_town (N := [("self" : Str), ("count" : Str), ("size" : Str), ("bridges" : Str), ("octet" : Str), ("bridge" : Str)]) (c := c_TownReader_read_town a) (k := 6) (by conv => lhs; whnf) (by conv => lhs; whnf) ⟨rfl, rfl, rfl, nd_TownReader_read_town, rfl, by decide +kernel, by decide +kernel⟩ ?_
  intro cdv A outer s H E I0 B0 hr
  exact (s_cons (s_expr (e_meth (e_var 0) X.c_TownReader X.q_TownReader_read (ok_TownReader_read X) (hr.mono (by decide)) X.b_TownReader_read (passes_call (takes_of rfl rfl rfl rfl) fun _ _ _ _ h => h) (a_cons (e_globI rfl X.m_HEAD) (a_cons (e_globI rfl X.m_HEAD) a_nil)) (an1 (an1 an0)) rfl)) (s_cons (s_set (i := 1) nd_TownReader_read_town rfl (by first | exact Or.inl rfl | exact Or.inr rfl) (e_meth (e_var 0) X.c_TownReader X.q_TownReader_read (ok_TownReader_read X) (hr.mono (by decide)) X.b_TownReader_read (passes_call (takes_of rfl rfl rfl rfl) fun _ _ _ _ h => h) (a_cons e_int (a_cons (e_cval (e_glob rfl X.m_Town) X.r_Town X.v_Town_MAX_PLACES fun _ _ => rfl) a_nil)) (an1 (an1 an0)) rfl)) (s_cons (s_set (i := 2) nd_TownReader_read_town rfl (by first | exact Or.inl rfl | exact Or.inr rfl) (e_meth (e_var 0) X.c_TownReader X.q_TownReader_read (ok_TownReader_read X) (hr.mono (by decide)) X.b_TownReader_read (passes_call (takes_of rfl rfl rfl rfl) fun _ _ _ _ h => h) (a_cons e_int (a_cons (e_cval (e_glob rfl X.m_Town) X.r_Town X.v_Town_MAX_BRIDGES fun _ _ => rfl) a_nil)) (an1 (an1 an0)) rfl)) (s_cons (s_set (i := 3) nd_TownReader_read_town rfl (by first | exact Or.inl rfl | exact Or.inr rfl) (e_callTy call_tuple_of (k_tuple rfl) rfl X.z_tuple bt_tuple (a_cons (e_lcX rfl nd_TownReader_read_town (own := [(("bridge" : Str), 5)]) (by conv => lhs; whnf) (by conv => lhs; whnf) (by decide +kernel) (i_range1 rfl X.z_range (e_var 2)) rfl rfl (takes_of rfl rfl rfl rfl) (fun _ _ _ _ _ _ _ bk tkx => ⟨(gw_name (i := 5) nd_TownReader_read_town rfl (by first | exact Or.inl rfl | exact Or.inr rfl) (by decide)), ts_nil, (e_meth (e_var 0) X.c_TownReader X.q_TownReader_read_bridge (ok_TownReader_read_bridge X) (hr.mono (by decide)) X.b_TownReader_read_bridge (passes_call tkx fun _ _ _ _ h => h) (a_cons (e_var 1) a_nil) (an1 an0) rfl)⟩)) a_nil))) (s_cons (s_for (passes_of rfl) rfl (i_seq (e_call (ok_checksum X) (hr.mono (by decide)) rfl X.m_checksum X.F_checksum.kp X.b_checksum (takes_of rfl rfl rfl rfl) (a_cons (e_cut (e_fld ("octets" : Str) (e_var 0) X.c_TownReader X.n_TownReader_octets) o_none (o_some (e_fld ("cursor" : Str) (e_var 0) X.c_TownReader X.n_TownReader_cursor))) a_nil) (an1 an0))) (g_name (i := 4) nd_TownReader_read_town rfl (by first | exact Or.inl rfl | exact Or.inr rfl)) (s_one (s_expr (e_meth (e_var 0) X.c_TownReader X.q_TownReader_read (ok_TownReader_read X) (hr.mono (by decide)) X.b_TownReader_read (passes_call (takes_of rfl rfl rfl rfl) fun _ _ _ _ h => h) (a_cons (e_var 4) (a_cons (e_var 4) a_nil)) (an1 (an1 an0)) rfl)))) (s_cons (s_if (t_cmp op_lt k_lt (e_fld ("cursor" : Str) (e_var 0) X.c_TownReader X.n_TownReader_cursor) (e_callB call_len (k_len rfl) rfl X.z_len bt_len (a_cons (e_fld ("octets" : Str) (e_var 0) X.c_TownReader X.n_TownReader_octets) a_nil)) rfl) (s_one (s_expr (e_meth (e_var 0) X.c_TownReader X.q_TownReader_fail (ok_TownReader_fail X) (hr.mono (by decide)) X.b_TownReader_fail (passes_call (takes_of rfl rfl rfl rfl) fun _ _ _ _ h => h) (a_cons (e_fld ("cursor" : Str) (e_var 0) X.c_TownReader X.n_TownReader_cursor) a_nil) (an1 an0) rfl))) s_nil) (s_one (s_ret (e_make X.k_Town (ok_Town__init X) (hr.mono (by decide)) rfl X.m_Town X.b_Town__init (passes_call (takes_of rfl rfl rfl rfl) fun _ _ _ _ h => h) (a_cons (e_var 1) (a_cons (e_var 3) a_nil)) (an1 (an1 an0)) rfl)))))))))
def q_TownReader__init_1 (a : Ad) : CS := (sField a.C_TownReader ("octets" : Str) (cVar 0) (cListB (cVar 1)))
def q_TownReader__init_2 (a : Ad) : CS := (sField a.C_TownReader ("cursor" : Str) (cVar 0) (cK (.int 0)))
theorem nd_TownReader__init : ([("self" : Str), ("data" : Str)] : List Str).Nodup := by decide +kernel
def c_TownReader__init (a : Ad) : CS := (sSeq (q_TownReader__init_1 a) (q_TownReader__init_2 a))
def g_TownReader__init (a : Ad) : G := run 2 (c_TownReader__init a)
theorem ok_TownReader__init {P : Program} {w : World} {mg : Str → Option Value} {base : Heap} {L : Tl} {a : Ad} (X : Fx mg a) : FnC P w TheK.K mg base L 1 a.f_TownReader__init a.d_TownReader__init [("self" : Str), ("data" : Str)] (g_TownReader__init a) := by
  refine fn_d X.F_TownReader__init (N := [("self" : Str), ("data" : Str)]) (c := c_TownReader__init a) (k := 0) (by conv => lhs; whnf) (by conv => lhs; whnf) ⟨rfl, rfl, rfl, nd_TownReader__init, rfl, by decide +kernel, by decide +kernel⟩ ?_
  intro cdv A outer s H E I0 B0 hr
  exact (s_cons (s_field (e_var 0) (e_listB rfl X.z_list (e_var 1)) X.c_TownReader X.n_TownReader_octets) (s_one (s_field (e_var 0) e_int X.c_TownReader X.n_TownReader_cursor)))
def q_decode_town_1 (a : Ad) : CS := (sRet (cMeth a.C_TownReader ("read_town" : Str) (g_TownReader_read_town a) (cMake a.C_TownReader (g_TownReader__init a) (aCons (cVar 0) aNil)) aNil))
theorem nd_decode_town : ([("data" : Str)] : List Str).Nodup := by decide +kernel
def c_decode_town (a : Ad) : CS := (q_decode_town_1 a)
def g_decode_town (a : Ad) : G := run 1 (c_decode_town a)
theorem ok_decode_town {P : Program} {w : World} {mg : Str → Option Value} {base : Heap} {L : Tl} {a : Ad} (X : Fx mg a) : FnC P w TheK.K mg base L 8 a.f_decode_town a.d_decode_town [("data" : Str)] (g_decode_town a) := by
  refine fn_d X.F_decode_town (N := [("data" : Str)]) (c := c_decode_town a) (k := 7) (by conv => lhs; whnf) (by conv => lhs; whnf) ⟨rfl, rfl, rfl, nd_decode_town, rfl, by decide +kernel, by decide +kernel⟩ ?_
  intro cdv A outer s H E I0 B0 hr
  exact (s_one (s_ret (e_meth0 (e_make X.k_TownReader (ok_TownReader__init X) (hr.mono (by decide)) rfl X.m_TownReader X.b_TownReader__init (passes_call (takes_of rfl rfl rfl rfl) fun _ _ _ _ h => h) (a_cons (e_var 0) a_nil) (an1 an0) rfl) X.c_TownReader X.q_TownReader_read_town (ok_TownReader_read_town X) (hr.mono (by decide)) X.b_TownReader_read_town (passes_call (takes_of rfl rfl rfl rfl) fun _ _ _ _ h => h) rfl)))
def q_law_14 (a : Ad) : CS := (sSet 11 (cLamN 2 (fun ac => cb_law_outcome a ac) 0 (cCall (g_decode_town a) (aCons (cVar 0) aNil)) [9] []))
def q_law_16 (a : Ad) : CS := (sIf (tB (c2 (oEq true) (cVar 11) (cTup (aCons (cK (.str ("InvalidData" : Str))) (aCons (c2 oDGet (cVar 8) (cK (.str ("bad" : Str)))) aNil))))) (sRet (cK (.bl false))) sNil)
def q_law_20 (a : Ad) : CS := (sIf (tB (c2 (oEqB true) (cCall (g_encode_town a) (aCons (cVar 11) aNil)) (cVar 9))) (sRet (cK (.bl false))) sNil)
def q_law_18 (a : Ad) : CS := (sIf (CL.tOr (tB (cApp (bIsT "tuple" (kio_tuple a)) (aCons (cVar 11) (aCons (cK (.ty "tuple")) aNil)))) (tB (c2 (oEq true) (cTup (aCons (cProp a.C_Town (gNox (g_Town_place_count a)) (cVar 11)) (aCons (cProp a.C_Town (gNox (g_Town_bridges a)) (cVar 11)) aNil))) (cVar 10)))) (sRet (cK (.bl false))) (q_law_20 a))
def q_law_15 (a : Ad) : CS := (sIf (tB (c2 xNotN (c2 oDGet (cVar 8) (cK (.str ("bad" : Str)))) (cK .non))) (q_law_16 a) (q_law_18 a))
def q_law_23 (a : Ad) : CS := (sIf (tB (c2 (oEq true) (cLamN 2 (fun ac => cb_law_outcome a ac) 0 (cCall (g_pack_bytes a) (aCons (cLst (aCons (cK (.int 0)) (aCons (cVar 0) aNil))) aNil)) [12] []) (cTup (aCons (cK (.str ("InvalidCount" : Str))) aNil)))) (sRet (cK (.bl false))) sNil)
def q_law_22 (a : Ad) : CS := (sFor (CL.iSeq (cTup (aCons (c2 oSub (cK (.int 0)) (cK (.int 1))) (aCons (cK (.int 256)) aNil)))) (gN 12) (q_law_23 a))
def b_law_2 (a : Ad) : CS := (sSeq (q_law_3 a) (sSeq (q_law_4 a) (sSeq (q_law_5 a) (sSeq (q_law_6 a) (sSeq (q_law_11 a) (sSeq (q_law_12 a) (sSeq (q_law_13 a) (sSeq (q_law_14 a) (sSeq (q_law_15 a) (q_law_22 a))))))))))
def q_law_2 (a : Ad) : CS := (sFor (CL.iRange1 (cK (.int 6))) (gN 2) (b_law_2 a))
theorem nd_law : ([("_law_script" : Str), ("_law_state" : Str), ("_law_turn" : Str), ("_law_count" : Str), ("_law_bridges_here" : Str), ("_law_body_here" : Str), ("_law_far" : Str), ("_law_octets" : Str), ("_law_w" : Str), ("_law_data" : Str), ("_law_expected" : Str), ("_law_actual" : Str), ("_law_wrong" : Str)] : List Str).Nodup := by decide +kernel
def c_law (a : Ad) : CS := (sSeq (q_law_1 a) (sSeq (q_law_2 a) (sRet (cK (.bl true)))))
def g_law (a : Ad) : G := run 13 (c_law a)
theorem ok_law {P : Program} {w : World} {mg : Str → Option Value} {base : Heap} {a : Ad} (X : Fx mg a) (TB : TBs base mg a) : FnC P w TheK.K mg base (LT a) 13 a.f_law a.d_law [("_law_script" : Str)] (g_law a) := by
  refine fn_dd X.F_law (N := [("_law_script" : Str), ("_law_state" : Str), ("_law_turn" : Str), ("_law_count" : Str), ("_law_bridges_here" : Str), ("_law_body_here" : Str), ("_law_far" : Str), ("_law_octets" : Str), ("_law_w" : Str), ("_law_data" : Str), ("_law_expected" : Str), ("_law_actual" : Str), ("_law_wrong" : Str)]) (c := c_law a) (k := 12) (by conv => lhs; whnf) (by conv => lhs; whnf) ⟨rfl, rfl, rfl, nd_law, rfl, by decide +kernel, by decide +kernel⟩ TB.hc_law ?_
  intro A outer s H E I0 B0 hr
  exact (s_cons (s_set (i := 1) nd_law rfl (by first | exact Or.inl rfl | exact Or.inr rfl) (e_call (ok_law_start X) (hr.mono (by decide)) rfl X.m_law_start X.F_law_start.kp X.b_law_start (takes_of rfl rfl rfl rfl) (a_cons (e_var 0) a_nil) (an1 an0))) (s_cons (s_for (passes_of rfl) rfl (i_range1 rfl X.z_range e_int) (g_name (i := 2) nd_law rfl (by first | exact Or.inl rfl | exact Or.inr rfl)) (s_cons (s_set (i := 3) nd_law rfl (by first | exact Or.inl rfl | exact Or.inr rfl) (e_op op_addA k_add e_int (e_call (ok_law_drawn X) (hr.mono (by decide)) rfl X.m_law_drawn X.F_law_drawn.kp X.b_law_drawn (takes_of rfl rfl rfl rfl) (a_cons (e_var 1) (a_cons e_int a_nil)) (an1 (an1 an0))))) (s_cons (s_set (i := 4) nd_law rfl (by first | exact Or.inl rfl | exact Or.inr rfl) (e_call (ok_law_bridges X) (hr.mono (by decide)) rfl X.m_law_bridges X.F_law_bridges.kp X.b_law_bridges (takes_of rfl rfl rfl rfl) (a_cons (e_var 1) (a_cons (e_var 3) (a_cons (e_ix (e_lst (a_cons e_int (a_cons e_int a_nil))) (e_call (ok_law_drawn X) (hr.mono (by decide)) rfl X.m_law_drawn X.F_law_drawn.kp X.b_law_drawn (takes_of rfl rfl rfl rfl) (a_cons (e_var 1) (a_cons e_int a_nil)) (an1 (an1 an0)))) (a_cons (e_op op_addA k_add (e_op op_pow k_pow e_int e_int) e_int) a_nil)))) (an1 (an1 (an1 (an1 an0)))))) (s_cons (s_set (i := 5) nd_law rfl (by first | exact Or.inl rfl | exact Or.inr rfl) (e_call (ok_law_body X) (hr.mono (by decide)) rfl X.m_law_body X.F_law_body.kp X.b_law_body (takes_of rfl rfl rfl rfl) (a_cons (e_var 3) (a_cons (e_var 4) a_nil)) (an1 (an1 an0)))) (s_cons (s_if (t_w (w_and (t_cmp (op_eqD hr.units) k_eq (e_var 2) e_int rfl) (w_and1 (t_cmp (op_neD hr.units) k_ne (e_var 4) (e_tup a_nil) rfl)))) (s_cons (s_set (i := 6) nd_law rfl (by first | exact Or.inl rfl | exact Or.inr rfl) (e_op op_addA k_add (e_cut (e_ix (e_var 4) e_int) o_none (o_some e_int)) (e_tup (a_cons (e_op op_addA k_add (e_op op_addA k_add (e_op op_pow k_pow e_int e_int) e_int) (e_call (ok_law_drawn X) (hr.mono (by decide)) rfl X.m_law_drawn X.F_law_drawn.kp X.b_law_drawn (takes_of rfl rfl rfl rfl) (a_cons (e_var 1) (a_cons e_int a_nil)) (an1 (an1 an0)))) a_nil)))) (s_one (s_set (i := 5) nd_law rfl (by first | exact Or.inl rfl | exact Or.inr rfl) (e_call (ok_law_body X) (hr.mono (by decide)) rfl X.m_law_body X.F_law_body.kp X.b_law_body (takes_of rfl rfl rfl rfl) (a_cons (e_var 3) (a_cons (e_op op_addA k_add (e_tup (a_cons (e_var 6) a_nil)) (e_cut (e_var 4) (o_some e_int) o_none)) a_nil)) (an1 (an1 an0)))))) (s_one (s_if (t_cmp (op_neD hr.units) k_ne (e_call (ok_unpack_bytes X) (hr.mono (by decide)) rfl X.m_unpack_bytes X.F_unpack_bytes.kp X.b_unpack_bytes (takes_of rfl rfl rfl rfl) (a_cons (e_call (ok_encode_town X) (hr.mono (by decide)) rfl X.m_encode_town X.F_encode_town.kp X.b_encode_town (takes_of rfl rfl rfl rfl) (a_cons (e_make X.k_Town (ok_Town__init X) (hr.mono (by decide)) rfl X.m_Town X.b_Town__init (passes_call (takes_of rfl rfl rfl rfl) fun _ _ _ _ h => h) (a_cons (e_var 3) (a_cons (e_var 4) a_nil)) (an1 (an1 an0)) rfl) a_nil) (an1 an0)) a_nil) (an1 an0)) (e_op op_addA k_add (e_var 5) (e_call (ok_law_checksum X) (hr.mono (by decide)) rfl X.m_law_checksum X.F_law_checksum.kp X.b_law_checksum (takes_of rfl rfl rfl rfl) (a_cons (e_var 5) a_nil) (an1 an0))) rfl) (s_one (s_ret e_bl)) s_nil))) (s_cons (s_set (i := 7) nd_law rfl (by first | exact Or.inl rfl | exact Or.inr rfl) (e_call (ok_law_damaged X) (hr.mono (by decide)) rfl X.m_law_damaged X.F_law_damaged.kp X.b_law_damaged (takes_of rfl rfl rfl rfl) (a_cons (e_var 1) (a_cons (e_var 5) a_nil)) (an1 (an1 an0)))) (s_cons (s_asg (e_tup (a_cons (e_disp (pps_cons e_str (e_var 7) (pps_cons e_str e_int (pps_cons e_str e_non pps_nil))) (rdP_cons (rdP_cons (rdP_cons rdP_nil)))) (a_cons (e_call (ok_pack_bytes X) (hr.mono (by decide)) rfl X.m_pack_bytes X.F_pack_bytes.kp X.b_pack_bytes (takes_of rfl rfl rfl rfl) (a_cons (e_var 7) a_nil) (an1 an0)) a_nil))) (g_tup rfl (g_cons (g_name (i := 8) nd_law rfl (by first | exact Or.inl rfl | exact Or.inr rfl)) (g_cons (g_name (i := 9) nd_law rfl (by first | exact Or.inl rfl | exact Or.inr rfl)) g_nil)))) (s_cons (s_set (i := 10) nd_law rfl (by first | exact Or.inl rfl | exact Or.inr rfl) (e_call (ok_law_read X) (hr.mono (by decide)) rfl X.m_law_read X.F_law_read.kp X.b_law_read (takes_of rfl rfl rfl rfl) (a_cons (e_var 8) a_nil) (an1 an0))) (s_cons (s_set (i := 11) nd_law rfl (by first | exact Or.inl rfl | exact Or.inr rfl) (e_lamN (k := 8) (N := [("_law_data" : Str)]) (ps := []) (an := ("_law_work" : Str)) (psl := []) (fr := [("_law_data" : Str)]) (js := [9]) rfl X.F_law_outcome sc_law_outcome X.b_law_outcome rfl X.m_law_outcome (fun cdg s H I0 B0 L FF ac hr hac => body_law_outcome X hr (by decide) hac) TB.tb_law rfl (.head _) TB.hu_law (hr.mono (by decide)) (by conv => lhs; whnf) (by decide +kernel) rfl rfl (NdefX.nscope_by (by decide +kernel)) rfl (fun _ _ _ _ _ us h => match us, h with | [], _ => rfl) .nil rfl (fun A outer s H E f c' hr => (e_call (ok_decode_town X) (hr.mono (by decide)) rfl X.m_decode_town X.F_decode_town.kp X.b_decode_town (takes_of rfl rfl rfl rfl) (a_cons (e_var 0) a_nil) (an1 an0))))) (s_cons (s_if (t_cmp op_notN k_notN (e_dget (u1 hr.units) (e_var 8) e_str) e_non rfl) (s_one (s_if (t_cmp (op_neD hr.units) k_ne (e_var 11) (e_tup (a_cons e_str (a_cons (e_dget (u1 hr.units) (e_var 8) e_str) a_nil))) rfl) (s_one (s_ret e_bl)) s_nil)) (s_one (s_if (t_w (w_or (t_val (e_callB (callR_or call_isi call_isiT) (k_isT rfl (kio_tuple_ok X)) rfl X.z_isinstance bt_isinstance (a_cons (e_var 11) (a_cons (e_ty rfl X.z_tuple bt_tuple) a_nil)))) (w_or1 (t_cmp (op_neD hr.units) k_ne (e_tup (a_cons (e_prop (e_var 11) X.c_Town X.p_Town_place_count (ok_Town_place_count X) (hr.mono (by decide)) X.b_Town_place_count rfl) (a_cons (e_prop (e_var 11) X.c_Town X.p_Town_bridges (ok_Town_bridges X) (hr.mono (by decide)) X.b_Town_bridges rfl) a_nil))) (e_var 10) rfl)))) (s_one (s_ret e_bl)) (s_one (s_if (t_cmp op_ne k_neB (e_call (ok_encode_town X) (hr.mono (by decide)) rfl X.m_encode_town X.F_encode_town.kp X.b_encode_town (takes_of rfl rfl rfl rfl) (a_cons (e_var 11) a_nil) (an1 an0)) (e_var 9) rfl) (s_one (s_ret e_bl)) s_nil))))) (s_one (s_for (passes_of rfl) rfl (i_seq (e_tup (a_cons (e_op op_sub k_sub e_int e_int) (a_cons e_int a_nil)))) (g_name (i := 12) nd_law rfl (by first | exact Or.inl rfl | exact Or.inr rfl)) (s_one (s_if (t_cmp (op_neD hr.units) k_ne (e_lamN (k := 3) (N := [("_law_wrong" : Str)]) (ps := []) (an := ("_law_work" : Str)) (psl := []) (fr := [("_law_wrong" : Str)]) (js := [12]) rfl X.F_law_outcome sc_law_outcome X.b_law_outcome rfl X.m_law_outcome (fun cdg s H I0 B0 L FF ac hr hac => body_law_outcome X hr (by decide) hac) TB.tb_law rfl (.head _) TB.hu_law (hr.mono (by decide)) (by conv => lhs; whnf) (by decide +kernel) rfl rfl (NdefX.nscope_by (by decide +kernel)) rfl (fun _ _ _ _ _ us h => match us, h with | [], _ => rfl) .nil rfl (fun A outer s H E f c' hr => (e_call (ok_pack_bytes X) (hr.mono (by decide)) rfl X.m_pack_bytes X.F_pack_bytes.kp X.b_pack_bytes (takes_of rfl rfl rfl rfl) (a_cons (e_lst (a_cons e_int (a_cons (e_var 0) a_nil))) a_nil) (an1 an0)))) (e_tup (a_cons e_str a_nil)) rfl) (s_one (s_ret e_bl)) s_nil)))))))))))))) (s_one (s_ret e_bl))))
end Law
set_option Elab.async false
set_option linter.all false
set_option maxRecDepth 100000
set_option maxHeartbeats 4000000
namespace Law
open PySem PySem.Spec PyProof.Rows L2 CL
variable [TheK]
theorem canInt (i : Int) : SeqAt.shaped (.int i) = true := by rfl
theorem canBool (b : Bool) : SeqAt.shaped (.bool b) = true := by rfl
@[simp] theorem oEq_int (neg : Bool) (i j : Int) (S : Store) : oEq neg (.int i) (.int j) S = .ok (.bl (if neg then !decide (i = j) else decide (i = j))) S := by
  simp [oEq, look, toPy, canInt, PyData.eqv]
  cases neg <;> simp [BEq.beq]
@[simp] theorem oEq_bl (neg : Bool) (i j : Bool) (S : Store) : oEq neg (.bl i) (.bl j) S = .ok (.bl (if neg then !(i == j) else i == j)) S := by
  simp [oEq, look, toPy, canBool, PyData.eqv]
@[simp] theorem atI0 {α : Type} (x : α) (xs : List α) : L2.atI (x :: xs) 0 = some x := L2.atI_nat (j := 0) rfl
@[simp] theorem atI1 {α : Type} (x y : α) (xs : List α) : L2.atI (x :: y :: xs) 1 = some y := L2.atI_nat (j := 1) rfl
@[simp] theorem atI2 {α : Type} (x y z : α) (xs : List α) : L2.atI (x :: y :: z :: xs) 2 = some z := L2.atI_nat (j := 2) rfl
@[simp] theorem atI3 {α : Type} (x y z w : α) (xs : List α) : L2.atI (x :: y :: z :: w :: xs) 3 = some w := L2.atI_nat (j := 3) rfl
@[simp] theorem atI4 {α : Type} (x y z w v : α) (xs : List α) : L2.atI (x :: y :: z :: w :: v :: xs) 4 = some v := L2.atI_nat (j := 4) rfl
@[simp] theorem ixN41 : L2.ixN 4 1 = some 1 := by rfl
@[simp] theorem ixN42 : L2.ixN 4 2 = some 2 := by rfl
@[simp] theorem ixN43 : L2.ixN 4 3 = some 3 := by rfl
@[simp] theorem kb_NoneType_dict : L2.kitB "NoneType" "dict" = some false := by decide +kernel
@[simp] theorem kb_NoneType_tuple : L2.kitB "NoneType" "tuple" = some false := by decide +kernel
@[simp] theorem kb_NoneType_list : L2.kitB "NoneType" "list" = some false := by decide +kernel
@[simp] theorem kb_NoneType_str : L2.kitB "NoneType" "str" = some false := by decide +kernel
@[simp] theorem kb_NoneType_int : L2.kitB "NoneType" "int" = some false := by decide +kernel
@[simp] theorem kb_NoneType_bool : L2.kitB "NoneType" "bool" = some false := by decide +kernel
@[simp] theorem kb_bool_dict : L2.kitB "bool" "dict" = some false := by decide +kernel
@[simp] theorem kb_bool_tuple : L2.kitB "bool" "tuple" = some false := by decide +kernel
@[simp] theorem kb_bool_list : L2.kitB "bool" "list" = some false := by decide +kernel
@[simp] theorem kb_bool_str : L2.kitB "bool" "str" = some false := by decide +kernel
@[simp] theorem kb_bool_int : L2.kitB "bool" "int" = some true := by decide +kernel
@[simp] theorem kb_bool_bool : L2.kitB "bool" "bool" = some true := by decide +kernel
@[simp] theorem kb_int_dict : L2.kitB "int" "dict" = some false := by decide +kernel
@[simp] theorem kb_int_tuple : L2.kitB "int" "tuple" = some false := by decide +kernel
@[simp] theorem kb_int_list : L2.kitB "int" "list" = some false := by decide +kernel
@[simp] theorem kb_int_str : L2.kitB "int" "str" = some false := by decide +kernel
@[simp] theorem kb_int_int : L2.kitB "int" "int" = some true := by decide +kernel
@[simp] theorem kb_int_bool : L2.kitB "int" "bool" = some false := by decide +kernel
@[simp] theorem kb_str_dict : L2.kitB "str" "dict" = some false := by decide +kernel
@[simp] theorem kb_str_tuple : L2.kitB "str" "tuple" = some false := by decide +kernel
@[simp] theorem kb_str_list : L2.kitB "str" "list" = some false := by decide +kernel
@[simp] theorem kb_str_str : L2.kitB "str" "str" = some true := by decide +kernel
@[simp] theorem kb_str_int : L2.kitB "str" "int" = some false := by decide +kernel
@[simp] theorem kb_str_bool : L2.kitB "str" "bool" = some false := by decide +kernel
@[simp] theorem kb_tuple_dict : L2.kitB "tuple" "dict" = some false := by decide +kernel
@[simp] theorem kb_tuple_tuple : L2.kitB "tuple" "tuple" = some true := by decide +kernel
@[simp] theorem kb_tuple_list : L2.kitB "tuple" "list" = some false := by decide +kernel
@[simp] theorem kb_tuple_str : L2.kitB "tuple" "str" = some false := by decide +kernel
@[simp] theorem kb_tuple_int : L2.kitB "tuple" "int" = some false := by decide +kernel
@[simp] theorem kb_tuple_bool : L2.kitB "tuple" "bool" = some false := by decide +kernel
@[simp] theorem kb_list_dict : L2.kitB "list" "dict" = some false := by decide +kernel
@[simp] theorem kb_list_tuple : L2.kitB "list" "tuple" = some false := by decide +kernel
@[simp] theorem kb_list_list : L2.kitB "list" "list" = some true := by decide +kernel
@[simp] theorem kb_list_str : L2.kitB "list" "str" = some false := by decide +kernel
@[simp] theorem kb_list_int : L2.kitB "list" "int" = some false := by decide +kernel
@[simp] theorem kb_list_bool : L2.kitB "list" "bool" = some false := by decide +kernel
@[simp] theorem kb_bytes_dict : L2.kitB "bytes" "dict" = some false := by decide +kernel
@[simp] theorem kb_bytes_tuple : L2.kitB "bytes" "tuple" = some false := by decide +kernel
@[simp] theorem kb_bytes_list : L2.kitB "bytes" "list" = some false := by decide +kernel
@[simp] theorem kb_bytes_str : L2.kitB "bytes" "str" = some false := by decide +kernel
@[simp] theorem kb_bytes_int : L2.kitB "bytes" "int" = some false := by decide +kernel
@[simp] theorem kb_bytes_bool : L2.kitB "bytes" "bool" = some false := by decide +kernel
@[simp] theorem nn_spot_number : (("spot" : Str) = ("number" : Str)) = False := eq_false (by decide +kernel)
@[simp] theorem nn_number_spot : (("number" : Str) = ("spot" : Str)) = False := eq_false (by decide +kernel)
@[simp] theorem nn_spot_added : (("spot" : Str) = ("added" : Str)) = False := eq_false (by decide +kernel)
@[simp] theorem nn_added_spot : (("added" : Str) = ("spot" : Str)) = False := eq_false (by decide +kernel)
@[simp] theorem nn_number_added : (("number" : Str) = ("added" : Str)) = False := eq_false (by decide +kernel)
@[simp] theorem nn_added_number : (("added" : Str) = ("number" : Str)) = False := eq_false (by decide +kernel)
@[simp] theorem nn_spot_every : (("spot" : Str) = ("every" : Str)) = False := eq_false (by decide +kernel)
@[simp] theorem nn_every_spot : (("every" : Str) = ("spot" : Str)) = False := eq_false (by decide +kernel)
@[simp] theorem nn_number_every : (("number" : Str) = ("every" : Str)) = False := eq_false (by decide +kernel)
@[simp] theorem nn_every_number : (("every" : Str) = ("number" : Str)) = False := eq_false (by decide +kernel)
@[simp] theorem nn_added_every : (("added" : Str) = ("every" : Str)) = False := eq_false (by decide +kernel)
@[simp] theorem nn_every_added : (("every" : Str) = ("added" : Str)) = False := eq_false (by decide +kernel)
@[simp] theorem nn_spot_times : (("spot" : Str) = ("times" : Str)) = False := eq_false (by decide +kernel)
@[simp] theorem nn_times_spot : (("times" : Str) = ("spot" : Str)) = False := eq_false (by decide +kernel)
@[simp] theorem nn_number_times : (("number" : Str) = ("times" : Str)) = False := eq_false (by decide +kernel)
@[simp] theorem nn_times_number : (("times" : Str) = ("number" : Str)) = False := eq_false (by decide +kernel)
@[simp] theorem nn_added_times : (("added" : Str) = ("times" : Str)) = False := eq_false (by decide +kernel)
@[simp] theorem nn_times_added : (("times" : Str) = ("added" : Str)) = False := eq_false (by decide +kernel)
@[simp] theorem nn_every_times : (("every" : Str) = ("times" : Str)) = False := eq_false (by decide +kernel)
@[simp] theorem nn_times_every : (("times" : Str) = ("every" : Str)) = False := eq_false (by decide +kernel)
@[simp] theorem nn_parts_total : (("parts" : Str) = ("total" : Str)) = False := eq_false (by decide +kernel)
@[simp] theorem nn_total_parts : (("total" : Str) = ("parts" : Str)) = False := eq_false (by decide +kernel)
@[simp] theorem nn_WORD_spot : (("WORD" : Str) = ("spot" : Str)) = False := eq_false (by decide +kernel)
@[simp] theorem nn_WORD_number : (("WORD" : Str) = ("number" : Str)) = False := eq_false (by decide +kernel)
@[simp] theorem nn_WORD_added : (("WORD" : Str) = ("added" : Str)) = False := eq_false (by decide +kernel)
@[simp] theorem nn_WORD_every : (("WORD" : Str) = ("every" : Str)) = False := eq_false (by decide +kernel)
@[simp] theorem nn_WORD_times : (("WORD" : Str) = ("times" : Str)) = False := eq_false (by decide +kernel)
@[simp] theorem nn_single_spot : (("single" : Str) = ("spot" : Str)) = False := eq_false (by decide +kernel)
@[simp] theorem nn_single_number : (("single" : Str) = ("number" : Str)) = False := eq_false (by decide +kernel)
@[simp] theorem nn_single_added : (("single" : Str) = ("added" : Str)) = False := eq_false (by decide +kernel)
@[simp] theorem nn_single_every : (("single" : Str) = ("every" : Str)) = False := eq_false (by decide +kernel)
@[simp] theorem nn_single_times : (("single" : Str) = ("times" : Str)) = False := eq_false (by decide +kernel)
@[simp] theorem nn_planned_spot : (("planned" : Str) = ("spot" : Str)) = False := eq_false (by decide +kernel)
@[simp] theorem nn_planned_number : (("planned" : Str) = ("number" : Str)) = False := eq_false (by decide +kernel)
@[simp] theorem nn_planned_added : (("planned" : Str) = ("added" : Str)) = False := eq_false (by decide +kernel)
@[simp] theorem nn_planned_every : (("planned" : Str) = ("every" : Str)) = False := eq_false (by decide +kernel)
@[simp] theorem nn_planned_times : (("planned" : Str) = ("times" : Str)) = False := eq_false (by decide +kernel)
@[simp] theorem nn_line_text_spot : (("line_text" : Str) = ("spot" : Str)) = False := eq_false (by decide +kernel)
@[simp] theorem nn_line_text_number : (("line_text" : Str) = ("number" : Str)) = False := eq_false (by decide +kernel)
@[simp] theorem nn_line_text_added : (("line_text" : Str) = ("added" : Str)) = False := eq_false (by decide +kernel)
@[simp] theorem nn_line_text_every : (("line_text" : Str) = ("every" : Str)) = False := eq_false (by decide +kernel)
@[simp] theorem nn_line_text_times : (("line_text" : Str) = ("times" : Str)) = False := eq_false (by decide +kernel)
@[simp] theorem nn_position_planned_spot : (("position_planned" : Str) = ("spot" : Str)) = False := eq_false (by decide +kernel)
@[simp] theorem nn_position_planned_number : (("position_planned" : Str) = ("number" : Str)) = False := eq_false (by decide +kernel)
@[simp] theorem nn_position_planned_added : (("position_planned" : Str) = ("added" : Str)) = False := eq_false (by decide +kernel)
@[simp] theorem nn_position_planned_every : (("position_planned" : Str) = ("every" : Str)) = False := eq_false (by decide +kernel)
@[simp] theorem nn_position_planned_times : (("position_planned" : Str) = ("times" : Str)) = False := eq_false (by decide +kernel)
@[simp] theorem nn_bridge_planned_spot : (("bridge_planned" : Str) = ("spot" : Str)) = False := eq_false (by decide +kernel)
@[simp] theorem nn_bridge_planned_number : (("bridge_planned" : Str) = ("number" : Str)) = False := eq_false (by decide +kernel)
@[simp] theorem nn_bridge_planned_added : (("bridge_planned" : Str) = ("added" : Str)) = False := eq_false (by decide +kernel)
@[simp] theorem nn_bridge_planned_every : (("bridge_planned" : Str) = ("every" : Str)) = False := eq_false (by decide +kernel)
@[simp] theorem nn_bridge_planned_times : (("bridge_planned" : Str) = ("times" : Str)) = False := eq_false (by decide +kernel)
@[simp] theorem nn_line_spot : (("line" : Str) = ("spot" : Str)) = False := eq_false (by decide +kernel)
@[simp] theorem nn_line_number : (("line" : Str) = ("number" : Str)) = False := eq_false (by decide +kernel)
@[simp] theorem nn_line_added : (("line" : Str) = ("added" : Str)) = False := eq_false (by decide +kernel)
@[simp] theorem nn_line_every : (("line" : Str) = ("every" : Str)) = False := eq_false (by decide +kernel)
@[simp] theorem nn_line_times : (("line" : Str) = ("times" : Str)) = False := eq_false (by decide +kernel)
@[simp] theorem nn_last_planned_spot : (("last_planned" : Str) = ("spot" : Str)) = False := eq_false (by decide +kernel)
@[simp] theorem nn_last_planned_number : (("last_planned" : Str) = ("number" : Str)) = False := eq_false (by decide +kernel)
@[simp] theorem nn_last_planned_added : (("last_planned" : Str) = ("added" : Str)) = False := eq_false (by decide +kernel)
@[simp] theorem nn_last_planned_every : (("last_planned" : Str) = ("every" : Str)) = False := eq_false (by decide +kernel)
@[simp] theorem nn_last_planned_times : (("last_planned" : Str) = ("times" : Str)) = False := eq_false (by decide +kernel)
@[simp] theorem nn_planned_parts : (("planned" : Str) = ("parts" : Str)) = False := eq_false (by decide +kernel)
@[simp] theorem nn_planned_total : (("planned" : Str) = ("total" : Str)) = False := eq_false (by decide +kernel)
@[simp] theorem nn_joined_parts : (("joined" : Str) = ("parts" : Str)) = False := eq_false (by decide +kernel)
@[simp] theorem nn_joined_total : (("joined" : Str) = ("total" : Str)) = False := eq_false (by decide +kernel)
@[simp] theorem nn_works_parts : (("works" : Str) = ("parts" : Str)) = False := eq_false (by decide +kernel)
@[simp] theorem nn_works_total : (("works" : Str) = ("total" : Str)) = False := eq_false (by decide +kernel)
@[simp] theorem nn_text_parts : (("text" : Str) = ("parts" : Str)) = False := eq_false (by decide +kernel)
@[simp] theorem nn_text_total : (("text" : Str) = ("total" : Str)) = False := eq_false (by decide +kernel)
@[simp] theorem nn_change_count_parts : (("change_count" : Str) = ("parts" : Str)) = False := eq_false (by decide +kernel)
@[simp] theorem nn_change_count_total : (("change_count" : Str) = ("total" : Str)) = False := eq_false (by decide +kernel)
theorem lg7 : Nat.log2 7 = 2 := by decide +kernel
theorem pow18 : (10 : Int) ^ 18 = 1000000000000000000 := by decide
/-- the draws' state -/
abbrev dst (ns : List Int) (i m t : Int) : MO := .lst [.scr ns, .int i, .int m, .int t]
theorem drawn_ok (a : Ad) (ns : List Int) (i m t : Int) (rest : Store) (lim : Int) (hl : ns.length ≤ 63) (hi : 0 ≤ i) (h0 : 0 < lim) (h1 : lim.natAbs.log2 < 9000) :
    ∃ (r i' m' t' : Int), g_law_drawn a [.ptr 0, .int lim] (dst ns i m t :: rest) = .ok (.int r) (dst ns i' m' t' :: rest) ∧ 0 ≤ r ∧ r < lim ∧ 0 ≤ i' := by
  by_cases ht : 0 < t
  · refine ⟨t % lim, i, m, t / lim, ?_, Int.emod_nonneg _ (by omega), Int.emod_lt_of_pos _ h0, hi⟩
    simp [g_law_drawn, CL.run, c_law_drawn, q_law_drawn_1, q_law_drawn_2, q_law_drawn_3, oIx, itemsOf, oAdd, bInt, bLen, oMod, oGt, oGe, oCmp, oPow, oDiv, oMul, smallI, pow18, h0, h1, ht]
  · by_cases hn : i + 1 ≤ ns.length
    · obtain ⟨k, hk⟩ : ∃ k : Nat, i = k := ⟨i.toNat, by omega⟩
      subst hk
      have hk : k < ns.length := by omega
      have e6 : L2.atI (ns.map D.int) (k : Int) = some (.int ns[k]) := L2.atI_nat (by simp [hk])
      have e7 : (k : Int) + 1 - 1 = k := by omega
      refine ⟨ns[k] % lim, k + 1, m, if 1000000000000000000 ≤ ns[k] then ns[k] / lim else 0, ?_, Int.emod_nonneg _ (by omega), Int.emod_lt_of_pos _ h0, by omega⟩
      by_cases hb : 1000000000000000000 ≤ ns[k]
      · simp [g_law_drawn, CL.run, c_law_drawn, q_law_drawn_1, q_law_drawn_2, q_law_drawn_3, q_law_drawn_5, q_law_drawn_6, q_law_drawn_7, q_law_drawn_8, q_law_drawn_9, oIx, itemsOf, oAdd, oSub, oLe, bInt, bLen, oMod, oGt, oGe, oCmp, oPow, oDiv, oMul, smallI, pow18, h0, h1, ht, hn, e6, e7, hb]
      · simp [g_law_drawn, CL.run, c_law_drawn, q_law_drawn_1, q_law_drawn_2, q_law_drawn_3, q_law_drawn_5, q_law_drawn_6, q_law_drawn_7, q_law_drawn_8, q_law_drawn_9, oIx, itemsOf, oAdd, oSub, oLe, bInt, bLen, oMod, oGt, oGe, oCmp, oPow, oDiv, oMul, smallI, pow18, h0, h1, ht, hn, e6, e7, hb]
    · refine ⟨(m * 48271 + 11) % 2147483647 / 7 % lim, i + 1, (m * 48271 + 11) % 2147483647, t, ?_, Int.emod_nonneg _ (by omega), Int.emod_lt_of_pos _ h0, by omega⟩
      simp [g_law_drawn, CL.run, c_law_drawn, q_law_drawn_1, q_law_drawn_2, q_law_drawn_3, q_law_drawn_5, q_law_drawn_6, q_law_drawn_7, q_law_drawn_8, q_law_drawn_9, q_law_drawn_10, q_law_drawn_11, oIx, itemsOf, oAdd, oSub, oLe, bInt, bLen, oMod, oGt, oGe, oCmp, oPow, oDiv, oMul, smallI, pow18, lg7, h0, h1, ht, hn]
end Law
set_option Elab.async false
set_option linter.all false
set_option maxRecDepth 100000
set_option maxHeartbeats 4000000
namespace Law
open PySem CL
variable [TheK]
@[simp] theorem iteA (p : Prop) [Decidable p] (b : Bool) (S : Store) : (if p then R.ok (D.bl b) S else R.ok (D.bl false) S) = R.ok (D.bl (decide p && b)) S := by by_cases h : p <;> simp [h]
@[simp] theorem iteB (p : Prop) [Decidable p] (b : Bool) (S : Store) : (if p then R.ok true S else R.ok b S) = R.ok (decide p || b) S := by by_cases h : p <;> simp [h]
@[simp] theorem iteC (p : Prop) [Decidable p] (b : Bool) (S : Store) : (if p then R.ok b S else R.ok false S) = R.ok (decide p && b) S := by by_cases h : p <;> simp [h]
@[simp] theorem iteD (p : Prop) [Decidable p] (b : Bool) (S : Store) : (if p then O.rt (D.bl false) S else O.rt (D.bl b) S) = O.rt (D.bl (!decide p && b)) S := by by_cases h : p <;> simp [h]
structure Quad where
  q1 : Int
  q2 : Int
  q3 : Int
  q4 : Int
def qd (q : Quad) : D := .tup [.int q.q1, .int q.q2, .int q.q3, .int q.q4]
def isL (c : Int) (q : Quad) : Bool := decide (0 ≤ q.q1) && decide (q.q1 < c) && (decide (0 ≤ q.q2) && decide (q.q2 < c)) && !decide (q.q1 = q.q2) && (decide (1 ≤ q.q3) && decide (q.q3 ≤ 99) && (decide (0 ≤ q.q4) && decide (q.q4 ≤ 1000000000000000000)))
theorem isL_iff (c q1 q2 q3 q4 : Int) : isL c ⟨q1, q2, q3, q4⟩ = true ↔ ((0 ≤ q1 ∧ q1 < c) ∧ (0 ≤ q2 ∧ q2 < c) ∧ q1 ≠ q2) ∧ (1 ≤ q3 ∧ q3 ≤ 99) ∧ 0 ≤ q4 ∧ q4 ≤ 1000000000000000000 := by
  unfold isL
  simp
  omega
def tq (qs : List Quad) : D := .tup (qs.map qd)
def Ext (S S' : Store) : Prop := ∃ T, S' = S ++ T
theorem Ext.trans {S S' S2 : Store} (h : Ext S S') (k : Ext S' S2) : Ext S S2 := by
  obtain ⟨T, rfl⟩ := h
  obtain ⟨U, rfl⟩ := k
  exact ⟨T ++ U, by simp⟩
theorem Ext.one (S : Store) (m : MO) : Ext S (S ++ [m]) := ⟨[m], rfl⟩
theorem Ext.at {S S' : Store} (h : Ext S S') {j : Nat} {m : MO} (e : S[j]? = some m) : S'[j]? = some m := by
  obtain ⟨T, rfl⟩ := h
  rw [List.getElem?_append_left (List.getElem?_eq_some_iff.mp e).1]; exact e
/-- the draws' state ahead of what else there is -/
def Kp (ns : List Int) (rest : Store) (S : Store) : Prop := ∃ i m t, S = dst ns i m t :: rest ∧ 0 ≤ i
theorem Kp.ext {ns : List Int} {rest S S' : Store} (h : Kp ns rest S) (e : Ext S S') : ∃ rest', Kp ns rest' S' ∧ Ext rest rest' := by
  obtain ⟨i, m, t, rfl, hi⟩ := h
  obtain ⟨T, rfl⟩ := e
  exact ⟨rest ++ T, ⟨i, m, t, rfl, hi⟩, T, rfl⟩
theorem Kp.at {ns : List Int} {rest S : Store} (h : Kp ns rest S) (j : Nat) : S[j + 1]? = rest[j]? := by
  obtain ⟨i, m, t, rfl, hi⟩ := h
  rfl
theorem Kp.len {ns : List Int} {rest S : Store} (h : Kp ns rest S) : S.length = rest.length + 1 := by
  obtain ⟨i, m, t, rfl, hi⟩ := h
  rfl
theorem Kp.app {ns : List Int} {rest S : Store} (h : Kp ns rest S) (T : Store) : Kp ns (rest ++ T) (S ++ T) := by
  obtain ⟨i, m, t, rfl, hi⟩ := h
  exact ⟨i, m, t, rfl, hi⟩
theorem Kp.set {ns : List Int} {rest S : Store} (h : Kp ns rest S) (j : Nat) (m : MO) : Kp ns (rest.set j m) (S.set (j + 1) m) := by
  obtain ⟨i, m, t, rfl, hi⟩ := h
  exact ⟨i, m, t, rfl, hi⟩
theorem draw (a : Ad) {ns : List Int} {rest S : Store} (h : Kp ns rest S) (hl : ns.length ≤ 63) (lim : Int) (h0 : 0 < lim) (h1 : lim ≤ 1000000000000000001) : ∃ r S', g_law_drawn a [.ptr 0, .int lim] S = .ok (.int r) S' ∧ Kp ns rest S' ∧ 0 ≤ r ∧ r < lim := by
  obtain ⟨i, m, t, rfl, hi⟩ := h
  have : lim.natAbs.log2 < 9000 := by
    have : lim.natAbs < 2 ^ 9000 := Nat.lt_of_le_of_lt (by omega : lim.natAbs ≤ 1000000000000000001) (by decide +kernel)
    exact (Nat.log2_lt (by omega)).mpr this
  obtain ⟨r, i', m', t', e, h2, h3, h4⟩ := drawn_ok a ns i m t rest lim hl hi h0 this
  exact ⟨r, _, e, ⟨i', m', t', rfl, h4⟩, h2, h3⟩
section
variable {a : Ad} {ns : List Int}
theorem start_loop (x0 : SV) : ∀ (xs : List Int) (m : Int) (x2 : SV) (S : Store), ∃ m' y2, loop (gN 2) (q_law_start_3 a) (xs.map D.int) [x0, .d (.int m), x2] S = .nx [x0, .d (.int m'), y2] S
  | [], m, x2, S => ⟨m, x2, by simp⟩
  | x :: xs, m, x2, S => by
    obtain ⟨m', y2, ih⟩ := start_loop x0 xs ((m * 48271 + x + 7) % 2147483647) (.d (.int x)) S
    refine ⟨m', y2, ?_⟩
    rw [List.map_cons, loop_cons (z1 := [x0, .d (.int m), .d (.int x)]) (z2 := [x0, .d (.int ((m * 48271 + x + 7) % 2147483647)), .d (.int x)]) (S2 := S) rfl (by simp [q_law_start_3, oMod, oAdd, oMul, smallI]), ih]
theorem start_ok : ∃ m, g_law_start a [.scr ns] [] = .ok (.ptr 0) [dst ns 0 m 0] := by
  obtain ⟨m', y2, h⟩ := start_loop (a := a) (.d (.scr ns)) ns 1 .u []
  refine ⟨m', run_rt ?_⟩
  show c_law_start a [.d (.scr ns), .u, .u] [] = _
  have e2 : q_law_start_2 a [.d (.scr ns), .d (.int 1), .u] [] = .nx [.d (.scr ns), .d (.int m'), y2] [] := by
    have it : CL.iSeq (cVar 0) [.d (.scr ns), .d (.int 1), .u] [] = .ok (ns.map D.int) [] := by simp
    unfold q_law_start_2
    rw [ev_for, it, ev_do]; exact h
  unfold c_law_start
  rw [seq_nx (z' := [.d (.scr ns), .d (.int 1), .u]) (S' := []) (by simp), seq_nx e2]
  simp [q_law_start_4]
end
end Law
set_option Elab.async false
set_option linter.all false
set_option maxRecDepth 100000
set_option maxHeartbeats 4000000
namespace Law
open PySem CL
variable [TheK]
section
variable {a : Ad} {ns : List Int} (hl : ns.length ≤ 63)
include hl
/-- what a drawn bridge is -/
def isBr (c high : Int) (q : Quad) : Prop := ((0 ≤ q.q1 ∧ q.q1 < c) ∧ (0 ≤ q.q2 ∧ q.q2 < c) ∧ q.q1 ≠ q.q2) ∧ (1 ≤ q.q3 ∧ q.q3 ≤ 99) ∧ 0 ≤ q.q4 ∧ (q.q4 < high ∨ q.q4 < 8)
omit hl in
theorem isBr.isL {c high : Int} {q : Quad} (h : isBr c high q) (hh : high ≤ 1000000000000000001) : isL c q = true := by
  obtain ⟨q1, q2, q3, q4⟩ := q
  rw [isL_iff]
  obtain ⟨h1, h2, h3, h4⟩ := h
  exact ⟨h1, h2, h3, by dsimp only at *; omega⟩
theorem pick2 {rest S : Store} (K : Kp ns rest S) (x y : Int) (z : Sl) (i : Nat) (hz : z[i]? = some (.d (.ptr 0))) (cx cy : CE) (hx : cx z S = .ok (.int x) S) (hy : cy z S = .ok (.int y) S) :
    ∃ r S', (r = x ∨ r = y) ∧ c2 oIx (cLst (aCons cx (aCons cy aNil))) (cCall (g_law_drawn a) (aCons (cVar i) (aCons (cK (.int 2)) aNil))) z S = .ok (.int r) S' ∧ Kp ns rest S' := by
  obtain ⟨r, S1, d1, K1, h0, h1⟩ := draw a K hl 2 (by decide) (by decide)
  have h01 : r = 0 ∨ r = 1 := by omega
  rcases h01 with rfl | rfl
  · exact ⟨x, S1, .inl rfl, by simp [hx, hy, hz, d1, oIx, itemsOf], K1⟩
  · exact ⟨y, S1, .inr rfl, by simp [hx, hy, hz, d1, oIx, itemsOf], K1⟩
theorem brs_turn {rest S : Store} (K : Kp ns rest S) (c high : Int) (hc : 1 < c) (hc2 : c ≤ 12) (h0 : 0 < high) (h1 : high ≤ 1000000000000000001) (acc : List Quad) (ha : acc.length < 1000) (x2 x5 x6 x7 x8 : SV) :
    ∃ (q : Quad) (S' : Store) (y6 y7 y8 : SV), isBr c high q ∧ b_law_bridges_2 a [.d (.ptr 0), .d (.int c), x2, .d (.int high), .l (acc.map qd), x5, x6, x7, x8] S = .nx [.d (.ptr 0), .d (.int c), x2, .d (.int high), .l ((acc ++ [q]).map qd), x5, y6, y7, y8] S' ∧ Kp ns rest S' := by
  obtain ⟨one, S1, d1, K1, o0, o1⟩ := draw a K hl c (by omega) (by omega)
  obtain ⟨r, S2, d2, K2, r0, r1⟩ := draw a K1 hl (c - 1) (by omega) (by omega)
  obtain ⟨lim, S3, hlim, d3, K3⟩ := pick2 (a := a) hl K2 8 high [.d (.ptr 0), .d (.int c), x2, .d (.int high), .l (acc.map qd), x5, .d (.int one), .d (.int ((one + 1 + r) % c)), x8] 0 rfl (cK (.int 8)) (cVar 3) (by simp) (by simp)
  obtain ⟨life, S4, d4, K4, l0, l1⟩ := draw a K3 hl lim (by omega) (by omega)
  obtain ⟨lm, S5, hlm, d5, K5⟩ := pick2 (a := a) hl K4 4 99 [.d (.ptr 0), .d (.int c), x2, .d (.int high), .l (acc.map qd), x5, .d (.int one), .d (.int ((one + 1 + r) % c)), .d (.int life)] 0 rfl (cK (.int 4)) (cK (.int 99)) (by simp) (by simp)
  obtain ⟨len, S6, d6, K6, n0, n1⟩ := draw a K5 hl lm (by omega) (by omega)
  refine ⟨⟨one, (one + 1 + r) % c, 1 + len, life⟩, S6, .d (.int one), .d (.int ((one + 1 + r) % c)), .d (.int life), ⟨⟨⟨o0, o1⟩, ⟨Int.emod_nonneg _ (by omega), Int.emod_lt_of_pos _ (by omega)⟩, ?_⟩, ⟨by dsimp only; omega, by dsimp only; omega⟩, l0, by dsimp only; omega⟩, ?_, K6⟩
  · dsimp only
    by_cases h : one + 1 + r < c
    · rw [Int.emod_eq_of_lt (by omega) h]; omega
    · rw [show one + 1 + r = (one + 1 + r - c) + c by omega, Int.add_emod_right, Int.emod_eq_of_lt (by omega) (by omega)]; omega
  · have e3 : q_law_bridges_3 a [.d (.ptr 0), .d (.int c), x2, .d (.int high), .l (acc.map qd), x5, x6, x7, x8] S = .nx [.d (.ptr 0), .d (.int c), x2, .d (.int high), .l (acc.map qd), x5, .d (.int one), x7, x8] S1 := by simp [q_law_bridges_3, d1]
    have e4 : q_law_bridges_4 a [.d (.ptr 0), .d (.int c), x2, .d (.int high), .l (acc.map qd), x5, .d (.int one), x7, x8] S1 = .nx [.d (.ptr 0), .d (.int c), x2, .d (.int high), .l (acc.map qd), x5, .d (.int one), .d (.int ((one + 1 + r) % c)), x8] S2 := by
      simp [q_law_bridges_4, d2, oSub, oAdd, oMod, show 0 < c by omega]
    have e5 : q_law_bridges_5 a [.d (.ptr 0), .d (.int c), x2, .d (.int high), .l (acc.map qd), x5, .d (.int one), .d (.int ((one + 1 + r) % c)), x8] S2 = .nx [.d (.ptr 0), .d (.int c), x2, .d (.int high), .l (acc.map qd), x5, .d (.int one), .d (.int ((one + 1 + r) % c)), .d (.int life)] S4 := by
      unfold q_law_bridges_5
      simp only [ev_set, ev_call, ev_cons, ev_nil, ev_var, List.getElem?_cons_zero, ev_slot, R.bind, d3, d4, ev_do]
      rfl
    have e6 : q_law_bridges_6 a [.d (.ptr 0), .d (.int c), x2, .d (.int high), .l (acc.map qd), x5, .d (.int one), .d (.int ((one + 1 + r) % c)), .d (.int life)] S4 = .nx [.d (.ptr 0), .d (.int c), x2, .d (.int high), .l ((acc ++ [(⟨one, (one + 1 + r) % c, 1 + len, life⟩ : Quad)]).map qd), x5, .d (.int one), .d (.int ((one + 1 + r) % c)), .d (.int life)] S6 := by
      have : cCall (g_law_drawn a) (aCons (cVar 0) (aCons (c2 oIx (cLst (aCons (cK (.int 4)) (aCons (cK (.int 99)) aNil))) (cCall (g_law_drawn a) (aCons (cVar 0) (aCons (cK (.int 2)) aNil)))) aNil)) [.d (.ptr 0), .d (.int c), x2, .d (.int high), .l (acc.map qd), x5, .d (.int one), .d (.int ((one + 1 + r) % c)), .d (.int life)] S4 = .ok (.int len) S6 := by
        simp only [ev_call, ev_cons, ev_nil, ev_var, List.getElem?_cons_zero, ev_slot, R.bind, d5, d6]
      unfold q_law_bridges_6
      rw [ev_append]
      simp only [ev_tup, ev_cons, ev_c2, this, ev_var, ev_k, List.getElem?_cons_succ, List.getElem?_cons_zero, ev_slot, R.bind, ev_nil, oAdd]
      simp [qd]
      omega
    unfold b_law_bridges_2
    rw [seq_nx e3, seq_nx e4, seq_nx e5, e6]
theorem brs_loop {rest : Store} (c high : Int) (hc : 1 < c) (hc2 : c ≤ 12) (h0 : 0 < high) (h1 : high ≤ 1000000000000000001) (x2 : SV) : ∀ (ks : List D) (S : Store) (acc : List Quad) (x5 x6 x7 x8 : SV), Kp ns rest S → acc.length + ks.length < 1000 → (∀ q ∈ acc, isBr c high q) →
    ∃ (qs : List Quad) (S' : Store) (y5 y6 y7 y8 : SV), loop (gN 5) (b_law_bridges_2 a) ks [.d (.ptr 0), .d (.int c), x2, .d (.int high), .l (acc.map qd), x5, x6, x7, x8] S = .nx [.d (.ptr 0), .d (.int c), x2, .d (.int high), .l (qs.map qd), y5, y6, y7, y8] S' ∧ Kp ns rest S' ∧ qs.length = acc.length + ks.length ∧ ∀ q ∈ qs, isBr c high q
  | [], S, acc, x5, x6, x7, x8, K, _, hq => ⟨acc, S, x5, x6, x7, x8, rfl, K, by simp, hq⟩
  | k :: ks, S, acc, x5, x6, x7, x8, K, hn, hq => by
    simp only [List.length_cons] at hn
    obtain ⟨q, S1, y6, y7, y8, b1, e1, K1⟩ := brs_turn (a := a) hl K c high hc hc2 h0 h1 acc (by omega) x2 (.d k) x6 x7 x8
    obtain ⟨qs, S2, z5, z6, z7, z8, e2, K2, l2, q2⟩ := brs_loop c high hc hc2 h0 h1 x2 ks S1 (acc ++ [q]) (.d k) y6 y7 y8 K1 (by simp; omega) (fun p hp => by
      rcases List.mem_append.mp hp with hp | hp
      · exact hq p hp
      · rw [List.mem_singleton] at hp; subst hp; exact b1)
    refine ⟨qs, S2, z5, z6, z7, z8, ?_, K2, by rw [l2]; simp; omega, q2⟩
    rw [loop_cons (z1 := [.d (.ptr 0), .d (.int c), x2, .d (.int high), .l (acc.map qd), .d k, x6, x7, x8]) rfl e1]
    exact e2
theorem brs_ok {rest S : Store} (K : Kp ns rest S) (c most high : Int) (hc : 1 ≤ c) (hc2 : c ≤ 12) (hm : 0 ≤ most) (hm2 : most ≤ 100) (h0 : 0 < high) (h1 : high ≤ 1000000000000000001) :
    ∃ (qs : List Quad) (S' : Store), g_law_bridges a [.ptr 0, .int c, .int most, .int high] S = .ok (tq qs) S' ∧ Kp ns rest S' ∧ (qs.length : Int) ≤ most ∧ ∀ q ∈ qs, isBr c high q := by
  have fin : ∀ (qs : List Quad) (y5 y6 y7 y8 : SV) (S' : Store), qs.length ≤ 100 → q_law_bridges_2 a [.d (.ptr 0), .d (.int c), .d (.int most), .d (.int high), .l [], .u, .u, .u, .u] S = .nx [.d (.ptr 0), .d (.int c), .d (.int most), .d (.int high), .l (qs.map qd), y5, y6, y7, y8] S' → g_law_bridges a [.ptr 0, .int c, .int most, .int high] S = .ok (tq qs) S' := fun qs y5 y6 y7 y8 S' hq e => by
    refine run_rt ?_
    show c_law_bridges a [.d (.ptr 0), .d (.int c), .d (.int most), .d (.int high), .u, .u, .u, .u, .u] S = _
    unfold c_law_bridges
    rw [seq_nx (z' := [.d (.ptr 0), .d (.int c), .d (.int most), .d (.int high), .l [], .u, .u, .u, .u]) (S' := S) (by simp), seq_nx e]
    simp [q_law_bridges_7, bTuple, tq]
  by_cases h : 1 < c
  · obtain ⟨n, S1, d1, K1, n0, n1⟩ := draw a K hl (most + 1) (by omega) (by omega)
    obtain ⟨m, rfl⟩ : ∃ m : Nat, n = m := ⟨n.toNat, by omega⟩
    obtain ⟨qs, S2, y5, y6, y7, y8, e, K2, l2, hq⟩ := brs_loop (a := a) (rest := rest) hl c high h hc2 h0 h1 (.d (.int most)) ((List.range' 0 m).map fun (k : Nat) => D.int (k : Int)) S1 [] .u .u .u .u K1 (by simp; omega) (fun _ hp => by cases hp)
    simp only [List.length_nil, List.length_map, List.length_range', Nat.zero_add] at l2
    refine ⟨qs, S2, fin qs y5 y6 y7 y8 S2 (by omega) ?_, K2, by omega, hq⟩
    have it : CL.iRange1 (cIf (tB (c2 oGt (cVar 1) (cK (.int 1)))) (cCall (g_law_drawn a) (aCons (cVar 0) (aCons (c2 oAdd (cVar 2) (cK (.int 1))) aNil))) (cK (.int 0))) [.d (.ptr 0), .d (.int c), .d (.int most), .d (.int high), .l [], .u, .u, .u, .u] S = .ok ((List.range' 0 m).map fun (k : Nat) => D.int (k : Int)) S1 := by
      refine iRange1_nat ?_ (by omega)
      simp [oGt, oCmp, h, oAdd, d1]
    unfold q_law_bridges_2
    rw [ev_for, it, ev_do]
    exact e
  · refine ⟨[], S, fin [] .u .u .u .u S (by simp) ?_, K, by simpa using hm, fun _ hp => by cases hp⟩
    have it : CL.iRange1 (cIf (tB (c2 oGt (cVar 1) (cK (.int 1)))) (cCall (g_law_drawn a) (aCons (cVar 0) (aCons (c2 oAdd (cVar 2) (cK (.int 1))) aNil))) (cK (.int 0))) [.d (.ptr 0), .d (.int c), .d (.int most), .d (.int high), .l [], .u, .u, .u, .u] S = .ok ((List.range' 0 0).map fun (k : Nat) => D.int (k : Int)) S := by
      refine iRange1_nat (n := 0) ?_ (by omega)
      simp [oGt, oCmp, h]
    unfold q_law_bridges_2
    rw [ev_for, it, ev_do]
    rfl
end
end Law
set_option Elab.async false
set_option linter.all false
set_option maxRecDepth 100000
set_option maxHeartbeats 4000000
namespace Law
open PySem CL
variable [TheK]
theorem is_bridge_ok (a : Ad) (c : Int) (q : Quad) (S : Store) : g_Town_is_bridge a [.int c, qd q] S = .ok (.bl (isL c q)) S := by
  obtain ⟨q1, q2, q3, q4⟩ := q
  simp [g_Town_is_bridge, CL.run, c_Town_is_bridge, q_Town_is_bridge_1, q_Town_is_bridge_3, q_Town_is_bridge_4, q_Town_is_bridge_6, bLen, itemsOf, oLe, oLt, oCmp, qd]
  by_cases hB : (q1 < 0 ∨ c ≤ q1) ∨ (q2 < 0 ∨ c ≤ q2) ∨ q1 = q2
  · simp [hB]
    rw [Bool.eq_false_iff, Ne, isL_iff]
    omega
  · simp [hB]
    rw [Bool.eq_iff_iff, isL_iff]
    simp
    omega
def badFrom (c : Int) : Nat → List Quad → Option Nat
  | _, [] => none
  | k, q :: qs => if k = 24 ∨ isL c q = false then some k else badFrom c (k + 1) qs
def badOf (c : Int) (qs : List Quad) : Option (Str × Int) := if 1 ≤ c ∧ c ≤ 12 then (badFrom c 0 qs).map fun k => (("bridges" : Str), (k : Int)) else some (("count" : Str), 0)
/-- what InvalidTown is told -/
def exT (a : Ad) (p : Str) (k : Int) : Exn := ⟨a.C_InvalidTown, [("index" : Str), ("part" : Str)], [.int k, .str p]⟩
theorem in_loop (a : Ad) (c : Int) (S : Store) (o : SV) (qs : List Quad) : ∀ (suf : List Quad) (k : Nat) (v w : SV),
    ∃ v' w', loop (CL.gTup 2 (CL.gCons (gN 3) (CL.gCons (gN 4) CL.gNil))) (q_Town__init_4 a)
      (((suf.map qd).zipIdx k).map fun p => D.tup [.int (p.2 : Nat), p.1]) [o, .d (.int c), .d (tq qs), v, w] S = match badFrom c k suf with
        | some j => .exc (exT a ("bridges" : Str) j) [o, .d (.int c), .d (tq qs), v', w'] S
        | none => .nx [o, .d (.int c), .d (tq qs), v', w'] S
  | [], k, v, w => ⟨v, w, by simp [badFrom]⟩
  | q :: suf, k, v, w => by
    obtain ⟨v', w', ih⟩ := in_loop a c S o qs suf (k + 1) (.d (.int (k : Nat))) (.d (qd q))
    have g1 : (CL.gTup 2 (CL.gCons (gN 3) (CL.gCons (gN 4) CL.gNil))) (D.tup [.int (k : Nat), qd q]) [o, .d (.int c), .d (tq qs), v, w] = some [o, .d (.int c), .d (tq qs), .d (.int (k : Nat)), .d (qd q)] := rfl
    simp only [List.map_cons, List.zipIdx_cons, badFrom]
    by_cases h24 : k = 24
    · refine ⟨.d (.int (k : Nat)), .d (qd q), ?_⟩
      have h24' : (k : Int) = 24 := by omega
      rw [loop_exc g1 (z2 := [o, .d (.int c), .d (tq qs), .d (.int (k : Nat)), .d (qd q)]) (S2 := S) (e := exT a ("bridges" : Str) (k : Nat))]
      · simp [h24]
      · simp [q_Town__init_4, q_Town__init_5, h24', exT, h24]
    · have h24' : ¬ (k : Int) = 24 := by omega
      cases hq : isL c q with
      | true =>
        refine ⟨v', w', ?_⟩
        rw [loop_cons g1 (z2 := [o, .d (.int c), .d (tq qs), .d (.int (k : Nat)), .d (qd q)]) (S2 := S)]
        · simp [h24]; exact ih
        · simp [q_Town__init_4, h24', is_bridge_ok, hq]
      | false =>
        refine ⟨.d (.int (k : Nat)), .d (qd q), ?_⟩
        rw [loop_exc g1 (z2 := [o, .d (.int c), .d (tq qs), .d (.int (k : Nat)), .d (qd q)]) (S2 := S) (e := exT a ("bridges" : Str) (k : Nat))]
        · simp
        · simp [q_Town__init_4, q_Town__init_5, h24', is_bridge_ok, hq, exT]
theorem nsl : ¬ (("size" : Str) = ("links" : Str)) := by decide +kernel
theorem init_ok (a : Ad) (c : Int) (qs : List Quad) (S : Store) (i : Nat) (h : S[i]? = some (.ins a.C_Town [] [])) : g_Town__init a [.ptr i, .int c, tq qs] S = match badOf c qs with
    | some (p, k) => .exc (exT a p k) S
    | none => .ok .non (S.set i (.ins a.C_Town [("size" : Str), ("links" : Str)] [.int c, tq qs])) := by
  obtain ⟨v', w', hL⟩ := in_loop a c S (.d (.ptr i)) qs qs 0 .u .u
  have hi : i < S.length := (List.getElem?_eq_some_iff.mp h).1
  simp [g_Town__init, CL.run, c_Town__init, q_Town__init_1, q_Town__init_2, q_Town__init_3, q_Town__init_6, q_Town__init_7, oLe, oCmp]
  unfold badOf
  by_cases hc : 1 ≤ c ∧ c ≤ 12
  · have hc2 : ¬ (c < 1 ∨ 12 < c) := by omega
    have hc3 : ¬ (c ≤ 0 ∨ 12 < c) := by omega
    simp [hc, hc2, hc3, tq, enumD]
    simp [tq] at hL
    rw [hL]
    cases hb : badFrom c 0 qs with
    | none => simp [h, List.getElem?_set_self hi, putN, nsl]
    | some k => simp
  · have hc2 : (c < 1 ∨ 12 < c) := by omega
    have hc3 : (c ≤ 0 ∨ 12 < c) := by omega
    simp [hc, hc2, hc3, exT]
end Law
set_option Elab.async false
set_option linter.all false
set_option maxRecDepth 100000
set_option maxHeartbeats 4000000
namespace Law
open PySem CL
variable [TheK]
def pyq (q : Quad) : PyData := .tuple [.int q.q1, .int q.q2, .int q.q3, .int q.q4]
theorem toPy_qd (q : Quad) : toPy (qd q) = some (pyq q) := by simp [qd, pyq, toPy, toPys]
theorem toPys_qd : ∀ qs : List Quad, toPys (qs.map qd) = some (qs.map pyq)
  | [] => rfl
  | q :: qs => by simp [toPys, toPy_qd, toPys_qd qs]
theorem toPy_tq (qs : List Quad) : toPy (tq qs) = some (.tuple (qs.map pyq)) := by simp [tq, toPy, toPys_qd]
theorem can_qs : ∀ qs : List Quad, PyData.canLayAll0 (qs.map pyq) = true
  | [] => rfl
  | q :: qs => by simp [PyData.canLayAll0, PyData.canLay0, pyq, can_qs qs]
theorem dep_qs : ∀ qs : List Quad, PyData.depthAll (qs.map pyq) ≤ 1
  | [] => by simp [PyData.depthAll]
  | q :: qs => by
    have := dep_qs qs
    simp [PyData.depthAll, PyData.depth, pyq]
    omega
theorem shaped_tq (qs : List Quad) : SeqAt.shaped (.tuple (qs.map pyq)) = true := by
  have := dep_qs qs
  simp [SeqAt.shaped, PyData.canLay0, can_qs, PyData.depth]
  omega
theorem oEq_nil (qs : List Quad) (S : Store) : oEq false (tq qs) (.tup []) S = .ok (.bl qs.isEmpty) S := by
  have e : toPy (.tup []) = some (.tuple []) := by simp [toPy, toPys]
  have l1 : look S (tq qs) = tq qs := by simp [look, tq]
  have l2 : look S (.tup []) = .tup [] := by simp [look]
  have s0 := shaped_tq []
  simp only [List.map_nil] at s0
  unfold oEq
  rw [l1, l2, toPy_tq, e]
  dsimp only
  rw [shaped_tq, s0]
  cases qs with
  | nil => simp [PyData.eqv, PyData.eqvAll]
  | cons q qs => simp [PyData.eqv, PyData.eqvAll]
theorem eq_self (x : D) (d : PyData) (S : Store) (h : toPy x = some d) (hl : look S x = x) (hs : SeqAt.shaped d = true) (neg : Bool) : oEq neg x x S = .ok (.bl (!neg)) S := by
  have e : PyData.eqv d d = true := SeqAt.eqv_refl d (by
    unfold SeqAt.shaped at hs
    rw [Bool.and_eq_true] at hs
    exact hs.1)
  unfold oEq
  rw [hl, h]
  dsimp only
  rw [hs, e]
  cases neg <;> rfl
def TownAt (a : Ad) (c : Int) (qs : List Quad) (j : Nat) (S : Store) : Prop := S[j]? = some (.ins a.C_Town [("size" : Str), ("links" : Str)] [.int c, tq qs])
theorem nsl2 : ¬ (("links" : Str) = ("size" : Str)) := by decide +kernel
theorem town_count (a : Ad) {S : Store} {c : Int} {qs : List Quad} {j : Nat} (h : TownAt a c qs j S) : g_Town_place_count a [.ptr j] S = .ok (.int c) S := by
  have h' : S[j]? = some (.ins a.C_Town [("size" : Str), ("links" : Str)] [.int c, tq qs]) := h
  exact run_rt (by simp [c_Town_place_count, q_Town_place_count_1, classOf, fieldOf, h'])
theorem town_links (a : Ad) {S : Store} {c : Int} {qs : List Quad} {j : Nat} (h : TownAt a c qs j S) : g_Town_bridges a [.ptr j] S = .ok (tq qs) S := by
  have h' : S[j]? = some (.ins a.C_Town [("size" : Str), ("links" : Str)] [.int c, tq qs]) := h
  have n1 := nsl2
  exact run_rt (by simp [c_Town_bridges, q_Town_bridges_1, classOf, fieldOf, h', List.lookup, beq_eq_false_iff_ne.mpr n1])
theorem badFrom_none {c : Int} : ∀ {qs : List Quad} {k : Nat}, k + qs.length ≤ 24 → (∀ q ∈ qs, isL c q = true) → badFrom c k qs = none
  | [], k, _, _ => rfl
  | q :: qs, k, hl, h => by
    have hl' : k + (qs.length + 1) ≤ 24 := by simpa using hl
    have e := h q (by simp)
    unfold badFrom
    rw [if_neg (by simp [e]; omega)]
    exact badFrom_none (by omega) fun p hp => h p (by simp [hp])
end Law
set_option Elab.async false
set_option linter.all false
set_option maxRecDepth 100000
set_option maxHeartbeats 4000000
namespace Law
open PySem CL
theorem lc_filterM {α : Type} (F f : α → D) (p : α → Bool) (g : Tg) (tt : CT) (e : CE) (z : Sl) (S : Store) : ∀ (xs : List α) (acc : List D), acc.length + xs.length ≤ 16777215 → (∀ x ∈ xs, ∃ z1, g (F x) z = some z1 ∧ tt z1 S = .ok (p x) S ∧ e z1 S = .ok (f x) S) → lcGo g tt e z (xs.map F) S acc = .ok (acc ++ (xs.filter p).map f) S
  | [], acc, _, _ => by simp [lcGo]
  | x :: xs, acc, hl, h => by
    have hl' : acc.length + (xs.length + 1) ≤ 16777215 := by simpa using hl
    obtain ⟨z1, h1, h2, h3⟩ := h x (by simp)
    rw [List.map_cons, lcGo, h1]
    dsimp only
    rw [h2, List.filter_cons]
    cases p x with
    | true =>
      dsimp only
      rw [h3]
      dsimp only
      rw [if_pos (by omega), lc_filterM F f p g tt e z S xs _ (by simp; omega) fun y hy => h y (by simp [hy])]
      simp
    | false =>
      dsimp only
      rw [lc_filterM F f p g tt e z S xs _ (by omega) fun y hy => h y (by simp [hy])]
      simp
theorem lc_mapP {α : Type} (F f : α → D) (g : Tg) (e : CE) (z : Sl) (S : Store) (xs : List α) (hl : xs.length ≤ 16777215) (h : ∀ x ∈ xs, ∃ z1, g (F x) z = some z1 ∧ e z1 S = .ok (f x) S) : lcGo g tYesC e z (xs.map F) S [] = .ok (xs.map f) S := by
  rw [lc_filterM F f (fun _ => true) g tYesC e z S xs [] (by simpa using hl) fun x hx => by
    obtain ⟨z1, h1, h2⟩ := h x hx
    exact ⟨z1, h1, rfl, h2⟩]
  rw [List.filter_eq_self.mpr fun _ _ => rfl, List.nil_append]
end Law
set_option Elab.async false
set_option linter.all false
set_option maxRecDepth 100000
set_option maxHeartbeats 4000000
namespace Law
open PySem CL
variable [TheK]
theorem lg256 : Nat.log2 256 = 8 := by decide +kernel
abbrev li (ns : List Int) : D := .lst (ns.map D.int)
def ckF : Int → List Int → Int
  | t, [] => t
  | t, o :: os => ckF ((t * 41 + o) % 65521) os
/-- the two bytes of a checksum -/
def ck (os : List Int) : List Int := [ckF 5 os / 256, ckF 5 os % 256]
theorem ckF_lt : ∀ (os : List Int) (t : Int), 0 ≤ t ∧ t < 65521 → 0 ≤ ckF t os ∧ ckF t os < 65521
  | [], t, h => h
  | o :: os, t, _ => ckF_lt os _ ⟨Int.emod_nonneg _ (by decide), Int.emod_lt_of_pos _ (by decide)⟩
def isB (n : Int) : Prop := 0 ≤ n ∧ n ≤ 255
def areB (ns : List Int) : Prop := ∀ n ∈ ns, isB n
theorem ck_b (os : List Int) : areB (ck os) := by
  have h := ckF_lt os 5 ⟨by decide, by decide⟩
  intro n hn
  simp only [ck, List.mem_cons, List.not_mem_nil, or_false] at hn
  rcases hn with rfl | rfl
  · unfold isB; omega
  · unfold isB; omega
section
variable {a : Ad} {S : Store}
theorem ck_loop (x0 : SV) : ∀ (os : List Int) (t : Int) (x2 : SV), ∃ y2, loop (gN 2) (q_checksum_3 a) (os.map D.int) [x0, .d (.int t), x2] S = .nx [x0, .d (.int (ckF t os)), y2] S
  | [], t, x2 => ⟨x2, rfl⟩
  | o :: os, t, x2 => by
    obtain ⟨y2, h⟩ := ck_loop x0 os ((t * 41 + o) % 65521) (.d (.int o))
    refine ⟨y2, ?_⟩
    rw [List.map_cons, loop_cons (z1 := [x0, .d (.int t), .d (.int o)]) (z2 := [x0, .d (.int ((t * 41 + o) % 65521)), .d (.int o)]) (S2 := S) rfl (by simp [q_checksum_3, oMod, oAdd, oMul, smallI, bInt])]
    exact h
theorem ck_ok (os : List Int) : g_checksum a [li os] S = .ok (li (ck os)) S := by
  obtain ⟨y2, h⟩ := ck_loop (a := a) (S := S) (.d (li os)) os 5 .u
  refine run_rt ?_
  show c_checksum a [.d (li os), .u, .u] S = _
  have e2 : q_checksum_2 a [.d (li os), .d (.int 5), .u] S = .nx [.d (li os), .d (.int (ckF 5 os)), y2] S := by
    unfold q_checksum_2
    rw [ev_for, show CL.iSeq (cVar 0) [.d (li os), .d (.int 5), .u] S = .ok (os.map D.int) S by simp, ev_do]
    exact h
  unfold c_checksum
  rw [seq_nx (z' := [.d (li os), .d (.int 5), .u]) (S' := S) (by simp), seq_nx e2]
  simp [q_checksum_4, oDiv, oMod, bInt, ck, lg256]
theorem lck_loop (x0 : SV) : ∀ (os : List Int) (t : Int) (x2 : SV), ∃ y2, loop (gN 2) (q_law_checksum_3 a) (os.map D.int) [x0, .d (.int t), x2] S = .nx [x0, .d (.int (ckF t os)), y2] S
  | [], t, x2 => ⟨x2, rfl⟩
  | o :: os, t, x2 => by
    obtain ⟨y2, h⟩ := lck_loop x0 os ((t * 41 + o) % 65521) (.d (.int o))
    refine ⟨y2, ?_⟩
    rw [List.map_cons, loop_cons (z1 := [x0, .d (.int t), .d (.int o)]) (z2 := [x0, .d (.int ((t * 41 + o) % 65521)), .d (.int o)]) (S2 := S) rfl (by simp [q_law_checksum_3, oMod, oAdd, oMul, smallI, bInt])]
    exact h
theorem lck_ok (os : List Int) : g_law_checksum a [li os] S = .ok (li (ck os)) S := by
  obtain ⟨y2, h⟩ := lck_loop (a := a) (S := S) (.d (li os)) os 5 .u
  refine run_rt ?_
  show c_law_checksum a [.d (li os), .u, .u] S = _
  have e2 : q_law_checksum_2 a [.d (li os), .d (.int 5), .u] S = .nx [.d (li os), .d (.int (ckF 5 os)), y2] S := by
    unfold q_law_checksum_2
    rw [ev_for, show CL.iSeq (cVar 0) [.d (li os), .d (.int 5), .u] S = .ok (os.map D.int) S by simp, ev_do]
    exact h
  unfold c_law_checksum
  rw [seq_nx (z' := [.d (li os), .d (.int 5), .u]) (S' := S) (by simp), seq_nx e2]
  simp [q_law_checksum_4, oDiv, oMod, bInt, ck, lg256]
end
end Law
set_option Elab.async false
set_option linter.all false
set_option maxRecDepth 100000
set_option maxHeartbeats 4000000
namespace Law
open PySem CL
variable [TheK]
/-- the groups of a number -/
def gr (n : Nat) : List Int := if n < 128 then [(n : Int)] else ((n % 128 + 128 : Nat) : Int) :: gr (n / 128)
termination_by n
decreasing_by omega
theorem gr_lo {n : Nat} (h : n < 128) : gr n = [(n : Int)] := by rw [gr, if_pos h]
theorem gr_hi {n : Nat} (h : ¬ n < 128) : gr n = ((n % 128 + 128 : Nat) : Int) :: gr (n / 128) := by rw [gr, if_neg h]
theorem gr_b : ∀ (k n : Nat), n < 128 ^ k → areB (gr n)
  | 0, n, h => by
    have : n = 0 := by simp at h; exact h
    subst this
    rw [gr_lo (by decide)]
    intro x hx; simp at hx; subst hx; exact ⟨by decide, by decide⟩
  | k + 1, n, h => by
    by_cases q : n < 128
    · rw [gr_lo q]
      intro x hx; simp at hx; subst hx; exact ⟨by omega, by omega⟩
    · rw [gr_hi q]
      intro x hx
      rcases List.mem_cons.mp hx with rfl | hx
      · exact ⟨by omega, by omega⟩
      · exact gr_b k (n / 128) (Nat.div_lt_of_lt_mul (by rw [Nat.pow_succ] at h; omega)) x hx
theorem gr_len : ∀ (k n : Nat), n < 128 ^ k → (gr n).length ≤ max k 1
  | 0, n, h => by
    have : n = 0 := by simp at h; exact h
    subst this
    rw [gr_lo (by decide)]; simp
  | k + 1, n, h => by
    by_cases q : n < 128
    · rw [gr_lo q]; simp
    · rw [gr_hi q, List.length_cons]
      have hk : 1 ≤ k := by
        rcases Nat.eq_zero_or_pos k with hz | hz
        · subst hz; simp at h; omega
        · exact hz
      have := gr_len k (n / 128) (Nat.div_lt_of_lt_mul (by rw [Nat.pow_succ] at h; omega))
      omega
/-- 10 ** 18 + 99 has nine groups -/
theorem p9 {n : Nat} (h : n ≤ 1000000000000000099) : n < 128 ^ 9 := Nat.lt_of_le_of_lt h (by decide +kernel)
theorem lg128 : Nat.log2 128 = 7 := by decide +kernel
section
variable {a : Ad} {S : Store}
theorem lgr_ok : ∀ (k n : Nat), n < 128 ^ k → k ≤ 100 → 1 ≤ k → g_law_groups a k [.int n] S = .ok (li (gr n)) S
  | 0, n, _, _, h => by omega
  | k + 1, n, h, hk, _ => by
    refine run_rt ?_
    show c_law_groups a (g_law_groups a k) [.d (.int n)] S = _
    unfold c_law_groups q_law_groups_1
    by_cases q : n < 128
    · rw [gr_lo q]
      have q' : (n : Int) < 128 := by omega
      simp [oLt, oCmp, q']
    · rw [gr_hi q]
      have q' : ¬ (n : Int) < 128 := by omega
      have hk : 1 ≤ k := by
        rcases Nat.eq_zero_or_pos k with hz | hz
        · subst hz; simp at h; omega
        · exact hz
      have hn : n / 128 < 128 ^ k := Nat.div_lt_of_lt_mul (by rw [Nat.pow_succ] at h; omega)
      have ih := lgr_ok k (n / 128) hn (by omega) hk
      have hl := gr_len k (n / 128) hn
      have e1 : ((n : Int) / 128) = ((n / 128 : Nat) : Int) := by omega
      have e2 : (n : Int) % 128 + 128 = ((n % 128 + 128 : Nat) : Int) := by omega
      have hl2 : (gr (n / 128)).length ≤ 101 := by omega
      have t : tB (c2 oLt (cVar 0) (cK (.int 128))) [.d (.int n)] S = .ok false S := by simp [oLt, oCmp, q']
      have f : cCall (g_law_groups a k) (aCons (c2 oDiv (cVar 0) (cK (.int 128))) aNil) [.d (.int n)] S = .ok (li (gr (n / 128))) S := by
        simp only [ev_call, ev_cons, ev_c2, ev_var, List.getElem?_cons_zero, ev_slot, R.bind, ev_k, ev_nil, oDiv]
        rw [if_pos ⟨by decide, by rw [show (128 : Int).natAbs = 128 from rfl, lg128]; decide⟩, e1]
        exact ih
      have g : cLst (aCons (c2 oAdd (c2 oMod (cApp bInt (aCons (cVar 0) aNil)) (cK (.int 128))) (cK (.int 128))) aNil) [.d (.int n)] S = .ok (.lst [.int ((n % 128 + 128 : Nat) : Int)]) S := by
        simp [oMod, oAdd, bInt]
      rw [ev_ret]
      simp only [ev_if, t, R.bind, ev_c2, f, g, oAdd]
      simp
      rw [if_pos (by omega)]
      simp
/-- the program's -/
theorem gro_go : ∀ (k n f : Nat) (ys : List D), n < 128 ^ k → k < f → ys.length + k ≤ 1000 →
    ∃ m : Nat, ∃ zs : List Int, gLoop (tB (c2 oGe (cVar 0) (cK (.int 128)))) (b_groups_of_1 a) f ys [.d (.int n)] S = .nx (ys ++ zs.map D.int) [.d (.int m)] S ∧ zs ++ [(m : Int)] = gr n ∧ m < 128 ∧ zs.length ≤ k
  | k, n, 0, ys, _, h, _ => by omega
  | 0, n, f + 1, ys, h, _, _ => by
    have : n = 0 := by simp at h; exact h
    subst this
    refine ⟨0, [], ?_, by rw [gr_lo (by decide)]; rfl, by decide, by simp⟩
    simp [gLoop, oGe, oCmp]
  | k + 1, n, f + 1, ys, h, hf, hl => by
    by_cases q : n < 128
    · refine ⟨n, [], ?_, by rw [gr_lo q]; rfl, q, by simp⟩
      have q' : ¬ (128 ≤ (n : Int)) := by omega
      simp [gLoop, oGe, oCmp, q']
    · have q' : (128 ≤ (n : Int)) := by omega
      have hn : n / 128 < 128 ^ k := Nat.div_lt_of_lt_mul (by rw [Nat.pow_succ] at h; omega)
      have e1 : ((n : Int) / 128) = ((n / 128 : Nat) : Int) := by omega
      have e2 : (n : Int) % 128 + 128 = ((n % 128 + 128 : Nat) : Int) := by omega
      obtain ⟨m, zs, h1, h2, h3, h4⟩ := gro_go k (n / 128) f (ys ++ [.int ((n % 128 + 128 : Nat) : Int)]) hn (by omega) (by simp; omega)
      refine ⟨m, ((n % 128 + 128 : Nat) : Int) :: zs, ?_, by rw [gr_hi q, ← h2]; rfl, h3, by simp; omega⟩
      have t : tB (c2 oGe (cVar 0) (cK (.int 128))) [.d (.int n)] S = .ok true S := by simp [oGe, oCmp, q']
      have b : b_groups_of_1 a ys [.d (.int n)] S = .nx (ys ++ [.int ((n % 128 + 128 : Nat) : Int)]) [.d (.int ((n / 128 : Nat) : Int))] S := by
        unfold b_groups_of_1 gSeq gYield
        rw [if_pos (by omega)]
        simp [bInt, oMod, oAdd, gSeq, gPlain, q_groups_of_3, oDiv, lg128, gDone]
      unfold gLoop
      simp only [t, b, h1]
      simp
theorem gro_ok {n : Nat} (h : n ≤ 1000000000000000099) {ca : CA} {z : Sl} {S0 : Store} (hc : ca z S0 = .ok [.int n] S) : cListG (gg_groups_of a) ca z S0 = .ok (li (gr n)) S := by
  obtain ⟨m, zs, h1, h2, h3, h4⟩ := gro_go (a := a) (S := S) 9 n 400 [] (p9 h) (by decide) (by decide)
  have : gg_groups_of a [.int n] S = .ok ((gr n).map D.int) S := by
    show (match cy_groups_of a [] [.d (.int n)] S with | .nx ys _ S' => R.ok ys S' | .rt ys .non S' => .ok ys S' | .exc x _ S' => .exc x S' | _ => .bad) = _
    have e : cy_groups_of a [] [.d (.int n)] S = .nx (zs.map D.int ++ [.int m]) [.d (.int m)] S := by
      unfold cy_groups_of gSeq gWhile
      rw [h1]
      simp only [List.nil_append]
      unfold gYield
      rw [if_pos (by simp; omega)]
      simp [gDone]
    rw [e]
    simp only
    rw [← h2]; simp
  rw [ev_listG, hc]
  simp only [R.bind, this]
/-- the bytes of a town, the checksum apart -/
def brB (q : Quad) : List Int := [q.q1, q.q2, q.q3] ++ gr q.q4.toNat
def body (c : Int) (qs : List Quad) : List Int := [84, c, (qs.length : Nat)] ++ qs.flatMap brB
/-- what may be written -/
def isW (q : Quad) : Prop := (0 ≤ q.q1 ∧ q.q1 ≤ 255) ∧ (0 ≤ q.q2 ∧ q.q2 ≤ 255) ∧ (0 ≤ q.q3 ∧ q.q3 ≤ 255) ∧ 0 ≤ q.q4 ∧ q.q4 ≤ 1000000000000000099
theorem brB_len {q : Quad} (h : isW q) : (brB q).length ≤ 12 := by
  obtain ⟨_, _, _, h4, h5⟩ := h
  have := gr_len 9 q.q4.toNat (p9 (by omega))
  simp only [brB, List.length_append, List.length_cons, List.length_nil]; omega
theorem brB_b {q : Quad} (h : isW q) : areB (brB q) := by
  obtain ⟨h1, h2, h3, h4, h5⟩ := h
  intro x hx
  simp only [brB, List.mem_append, List.mem_cons, List.not_mem_nil, or_false] at hx
  rcases hx with (rfl | rfl | rfl) | hx
  · exact h1
  · exact h2
  · exact h3
  · exact gr_b 9 _ (p9 (by omega)) x hx
theorem brs_len : ∀ {qs : List Quad}, (∀ q ∈ qs, isW q) → (qs.flatMap brB).length ≤ 12 * qs.length
  | [], _ => by simp
  | q :: qs, h => by
    have h1 := brB_len (h q List.mem_cons_self)
    have h2 := brs_len fun p hp => h p (List.mem_cons_of_mem _ hp)
    rw [List.flatMap_cons, List.length_append, List.length_cons]; omega
theorem body_len {c : Int} {qs : List Quad} (h : ∀ q ∈ qs, isW q) : (body c qs).length ≤ 3 + 12 * qs.length := by
  have := brs_len h
  simp only [body, List.length_append, List.length_cons, List.length_nil]; omega
theorem body_b {c : Int} {qs : List Quad} (hc : 0 ≤ c ∧ c ≤ 255) (hq : qs.length ≤ 255) (h : ∀ q ∈ qs, isW q) : areB (body c qs) := by
  intro x hx
  simp only [body, List.mem_append, List.mem_cons, List.not_mem_nil, or_false, List.mem_flatMap] at hx
  rcases hx with (rfl | rfl | rfl) | ⟨q, hq, hx⟩
  · exact ⟨by decide, by decide⟩
  · exact hc
  · exact ⟨by omega, by omega⟩
  · exact brB_b (h q hq) x hx
theorem lbody_loop (x0 x1 : SV) : ∀ (qs : List Quad) (acc : List Int) (x3 x4 x5 x6 : SV), (∀ q ∈ qs, isW q) → acc.length + 12 * qs.length ≤ 100000 →
    ∃ y3 y4 y5 y6, loop (CL.gTup 4 (gCons (gN 3) (gCons (gN 4) (gCons (gN 5) (gCons (gN 6) gNil))))) (q_law_body_3 a) (qs.map qd) [x0, x1, .d (li acc), x3, x4, x5, x6] S = .nx [x0, x1, .d (li (acc ++ qs.flatMap brB)), y3, y4, y5, y6] S
  | [], acc, x3, x4, x5, x6, _, _ => ⟨x3, x4, x5, x6, by simp⟩
  | q :: qs, acc, x3, x4, x5, x6, h, hl => by
    obtain ⟨q1, q2, q3, q4⟩ := q
    have hw := h _ (List.mem_cons_self)
    have hb := brB_len hw
    simp only [List.length_cons] at hl
    obtain ⟨h1, h2, h3, h4, h5⟩ := hw
    obtain ⟨n, hn⟩ : ∃ n : Nat, q4 = n := ⟨q4.toNat, by simp at h4; omega⟩
    subst hn
    simp at h4 h5
    obtain ⟨y3, y4, y5, y6, ih⟩ := lbody_loop x0 x1 qs (acc ++ brB ⟨q1, q2, q3, n⟩) (.d (.int q1)) (.d (.int q2)) (.d (.int q3)) (.d (.int n)) (fun p hp => h p (List.mem_cons_of_mem _ hp)) (by rw [List.length_append]; omega)
    refine ⟨y3, y4, y5, y6, ?_⟩
    have g := lgr_ok (a := a) (S := S) 10 n (Nat.lt_trans (p9 (by omega)) (by decide +kernel)) (by decide) (by decide)
    have gl := gr_len 9 n (p9 (by omega))
    have t : q_law_body_3 a [x0, x1, .d (li acc), .d (.int q1), .d (.int q2), .d (.int q3), .d (.int n)] S = .nx [x0, x1, .d (li (acc ++ brB ⟨q1, q2, q3, n⟩)), .d (.int q1), .d (.int q2), .d (.int q3), .d (.int n)] S := by
      have l1 : acc.length + 3 ≤ 16777216 := by omega
      have l2 : acc.length + 3 + (gr n).length ≤ 16777216 := by omega
      simp [q_law_body_3, oAdd, g, l1, l2, brB]
    rw [List.map_cons, loop_cons (z1 := [x0, x1, .d (li acc), .d (.int q1), .d (.int q2), .d (.int q3), .d (.int n)]) rfl t, ih]
    simp
theorem lbody_ok (c : Int) {qs : List Quad} (h : ∀ q ∈ qs, isW q) (hl : qs.length ≤ 100) : g_law_body a [.int c, tq qs] S = .ok (li (body c qs)) S := by
  obtain ⟨y3, y4, y5, y6, lp⟩ := lbody_loop (a := a) (S := S) (.d (.int c)) (.d (tq qs)) qs [84, c, (qs.length : Nat)] .u .u .u .u h (by simp; omega)
  refine run_rt ?_
  show c_law_body a [.d (.int c), .d (tq qs), .u, .u, .u, .u, .u] S = _
  have e2 : q_law_body_2 a [.d (.int c), .d (tq qs), .d (li [84, c, (qs.length : Nat)]), .u, .u, .u, .u] S = .nx [.d (.int c), .d (tq qs), .d (li (body c qs)), y3, y4, y5, y6] S := by
    unfold q_law_body_2
    rw [ev_for, show CL.iSeq (cVar 1) [.d (.int c), .d (tq qs), .d (li [84, c, (qs.length : Nat)]), .u, .u, .u, .u] S = .ok (qs.map qd) S by simp [tq], ev_do]
    exact lp
  unfold c_law_body
  rw [seq_nx (z' := [.d (.int c), .d (tq qs), .d (li [84, c, (qs.length : Nat)]), .u, .u, .u, .u]) (S' := S) (by simp [q_law_body_1, bLen, tq, itemsOf]), seq_nx e2]
  simp
theorem enc_loop (x0 : SV) : ∀ (qs : List Quad) (acc : List Int) (x2 x3 x4 x5 : SV), (∀ q ∈ qs, isW q) → acc.length + 12 * qs.length ≤ 100000 →
    ∃ y2 y3 y4 y5, loop (CL.gTup 4 (gCons (gN 2) (gCons (gN 3) (gCons (gN 4) (gCons (gN 5) gNil))))) (q_encode_town_3 a) (qs.map qd) [x0, .l (acc.map D.int), x2, x3, x4, x5] S = .nx [x0, .l ((acc ++ qs.flatMap brB).map D.int), y2, y3, y4, y5] S
  | [], acc, x2, x3, x4, x5, _, _ => ⟨x2, x3, x4, x5, by simp⟩
  | q :: qs, acc, x2, x3, x4, x5, h, hl => by
    obtain ⟨q1, q2, q3, q4⟩ := q
    have hw := h _ (List.mem_cons_self)
    have hb := brB_len hw
    simp only [List.length_cons] at hl
    obtain ⟨h1, h2, h3, h4, h5⟩ := hw
    obtain ⟨n, hn⟩ : ∃ n : Nat, q4 = n := ⟨q4.toNat, by simp at h4; omega⟩
    subst hn
    simp at h4 h5
    obtain ⟨y2, y3, y4, y5, ih⟩ := enc_loop x0 qs (acc ++ brB ⟨q1, q2, q3, n⟩) (.d (.int q1)) (.d (.int q2)) (.d (.int q3)) (.d (.int n)) (fun p hp => h p (List.mem_cons_of_mem _ hp)) (by rw [List.length_append]; omega)
    refine ⟨y2, y3, y4, y5, ?_⟩
    have gl := gr_len 9 n (p9 (by omega))
    have g := gro_ok (a := a) (S := S) (S0 := S) (n := n) (by omega) (ca := aCons (cVar 5) aNil) (z := [x0, .l (acc.map D.int), .d (.int q1), .d (.int q2), .d (.int q3), .d (.int n)]) (by simp)
    have t : q_encode_town_3 a [x0, .l (acc.map D.int), .d (.int q1), .d (.int q2), .d (.int q3), .d (.int n)] S = .nx [x0, .l ((acc ++ brB ⟨q1, q2, q3, n⟩).map D.int), .d (.int q1), .d (.int q2), .d (.int q3), .d (.int n)] S := by
      have l1 : (gr n).length + 3 ≤ 16777216 := by omega
      have l2 : acc.length + ((gr n).length + 3) ≤ 16777216 := by omega
      unfold q_encode_town_3 sExtend
      simp only [List.getElem?_cons_succ, List.getElem?_cons_zero, ev_lst, ev_cons, ev_starC, ev_var, ev_slot, R.bind, g, itemsOf, ev_nil]
      simp [brB]
      rw [if_pos (by omega), ev_do]
      simp
      omega
    rw [List.map_cons, loop_cons (z1 := [x0, .l (acc.map D.int), .d (.int q1), .d (.int q2), .d (.int q3), .d (.int n)]) rfl t, ih]
    simp
theorem ints_map : ∀ ns : List Int, intsOf (ns.map D.int) = some ns
  | [] => rfl
  | n :: ns => by simp [intsOf, ints_map ns]
theorem byteNs_of {ns : List Int} (h : areB ns) : byteNs ns = true := by
  unfold byteNs
  rw [List.all_eq_true]
  intro n hn
  have := h n hn
  simp only [Bool.and_eq_true, decide_eq_true_eq]
  unfold isB at this; omega
/-- all bytes of a town -/
def whole (c : Int) (qs : List Quad) : List Int := body c qs ++ ck (body c qs)
theorem areB.app {xs ys : List Int} (h : areB xs) (k : areB ys) : areB (xs ++ ys) := fun n hn => (List.mem_append.mp hn).elim (h n) (k n)
theorem whole_b {c : Int} {qs : List Quad} (hc : 0 ≤ c ∧ c ≤ 255) (hq : qs.length ≤ 255) (h : ∀ q ∈ qs, isW q) : areB (whole c qs) := (body_b hc hq h).app (ck_b _)
theorem enc_ok {c : Int} {qs : List Quad} {j : Nat} (ht : TownAt a c qs j S) (hc : 0 ≤ c ∧ c ≤ 255) (h : ∀ q ∈ qs, isW q) (hl : qs.length ≤ 100) : g_encode_town a [.ptr j] S = .ok (.byt (byteArr (whole c qs))) S := by
  have t1 := town_count a ht
  have t2 := town_links a ht
  have bl := body_len (c := c) h
  obtain ⟨y2, y3, y4, y5, lp⟩ := enc_loop (a := a) (S := S) (.d (.ptr j)) qs [84, c, (qs.length : Nat)] .u .u .u .u h (by simp; omega)
  have cl : classOf S (.ptr j) = some (a.C_Town, [("size" : Str), ("links" : Str)]) := by simp [classOf, show S[j]? = _ from ht]
  refine run_rt ?_
  show c_encode_town a [.d (.ptr j), .u, .u, .u, .u, .u] S = _
  have e1 : q_encode_town_1 a [.d (.ptr j), .u, .u, .u, .u, .u] S = .nx [.d (.ptr j), .l ([84, c, ((qs.length : Nat) : Int)].map D.int), .u, .u, .u, .u] S := by
    simp [q_encode_town_1, cl, t1, t2, bLen, tq, itemsOf]
  have e2 : q_encode_town_2 a [.d (.ptr j), .l ([84, c, ((qs.length : Nat) : Int)].map D.int), .u, .u, .u, .u] S = .nx [.d (.ptr j), .l ((body c qs).map D.int), y2, y3, y4, y5] S := by
    unfold q_encode_town_2
    rw [ev_for, show CL.iSeq (cProp a.C_Town (gNox (g_Town_bridges a)) (cVar 0)) [.d (.ptr j), .l ([84, c, ((qs.length : Nat) : Int)].map D.int), .u, .u, .u, .u] S = .ok (qs.map qd) S by simp [cl, t2, tq], ev_do]
    exact lp
  have wb := byteNs_of (whole_b hc (by omega) h)
  have ckk := ck_ok (a := a) (S := S) (body c qs)
  unfold c_encode_town
  rw [seq_nx e1, seq_nx e2]
  unfold q_encode_town_4
  rw [ev_frz]
  simp only [List.getElem?_cons_succ, List.getElem?_cons_zero, List.set_cons_succ, List.set_cons_zero, ev_ret, ev_app, ev_cons, ev_lst, ev_starC, ev_var, ev_slot, R.bind, itemsOf, ev_call, ckk, ev_nil]
  rw [if_pos (by simp [ck]; omega)]
  have : intsOf (List.map D.int (body c qs) ++ (List.map D.int (ck (body c qs)) ++ [])) = some (whole c qs) := by
    rw [List.append_nil, ← List.map_append]; exact ints_map _
  simp only [bBytes, lstOf, itemsOf, Option.bind, this, wb, if_true, ev_do]
end
end Law
set_option Elab.async false
set_option linter.all false
set_option maxRecDepth 100000
set_option maxHeartbeats 4000000
namespace Law
open PySem CL
variable [TheK]
theorem bi_byteArr : ∀ {ns : List Int}, areB ns → L2.bi (byteArr ns) = ns := fun {ns} h => by
  unfold L2.bi PySem.W.KBw.bInts byteArr
  simp only [List.map_map]
  conv => rhs; rw [← List.map_id ns]
  refine List.map_congr_left fun n hn => ?_
  have := h n hn
  unfold isB at this
  exact PySem.W.byte_back this.1 (by omega)
theorem byteArr_size2 (ns : List Int) : (byteArr ns).size = ns.length := by simp [byteArr]
theorem oEq_nilL' {S : Store} (neg : Bool) : oEq neg (.lst []) (.lst []) S = .ok (.bl (!neg)) S := eq_self _ (.list []) S rfl rfl (by decide +kernel) neg
theorem ints_toPy : ∀ xs : List Int, toPys (xs.map D.int) = some (xs.map PyData.int)
  | [] => rfl
  | x :: xs => by simp [toPys, toPy, ints_toPy xs]
theorem ints_can : ∀ xs : List Int, PyData.canLayAll0 (xs.map PyData.int) = true ∧ PyData.depthAll (xs.map PyData.int) ≤ 0
  | [] => ⟨rfl, by simp [PyData.depthAll]⟩
  | x :: xs => by
    obtain ⟨h1, h2⟩ := ints_can xs
    exact ⟨by simp [PyData.canLayAll0, PyData.canLay0, h1], by simp [PyData.depthAll, PyData.depth]; omega⟩
theorem oEq_cons {S : Store} (neg : Bool) (x : Int) (xs : List Int) : oEq neg (.lst (.int x :: xs.map D.int)) (.lst []) S = .ok (.bl neg) S := by
  have c := ints_can xs
  have sh : SeqAt.shaped (.list (.int x :: xs.map PyData.int)) = true := by
    simp [SeqAt.shaped, PyData.canLay0, PyData.canLayAll0, c.1, PyData.depth, PyData.depthAll]
    omega
  have s0 : SeqAt.shaped (.list []) = true := by decide +kernel
  have e : PyData.eqv (.list (.int x :: xs.map PyData.int)) (.list []) = false := by simp [PyData.eqv, PyData.eqvAll]
  unfold oEq
  simp only [look, toPy, toPys, ints_toPy, Option.map]
  rw [sh, s0, e]
  cases neg <;> rfl
section
variable {a : Ad} {S : Store}
theorem unp_ok {ns : List Int} (h : areB ns) (hl : ns.length ≤ 16777216) : g_unpack_bytes a [.byt (byteArr ns)] S = .ok (li ns) S := by
  refine run_rt ?_
  show c_unpack_bytes a [.d (.byt (byteArr ns))] S = _
  unfold c_unpack_bytes
  rw [ev_ret, ev_listB]
  simp only [ev_var, List.getElem?_cons_zero, ev_slot, R.bind]
  rw [if_pos (by rw [byteArr_size2]; exact hl), bi_byteArr h, ev_do]
theorem pk_lc (ns : List Int) (hl : ns.length ≤ 100000) (z : Sl) (hz : z[0]? = some (.d (li ns))) (h1 : 1 < z.length) : cLc (CL.iSeq (cVar 0)) (gN 1) tYesC (cChain oLe oLt (cK (.int 0)) (cVar 1) (cK (.int 256))) [1] z S = .ok (.lst (ns.map fun n => D.bl (decide (0 ≤ n) && decide (n < 256)))) S := by
  have it : CL.iSeq (cVar 0) z S = .ok (ns.map D.int) S := by simp [hz]
  have := lc_mapP (fun n : Int => D.int n) (fun n => .bl (decide (0 ≤ n) && decide (n < 256))) (gN 1) (cChain oLe oLt (cK (.int 0)) (cVar 1) (cK (.int 256))) (wipeD z [1]) S ns (by omega) fun x hx => by
    have e1 : ((wipeD z [1]).set 1 (.d (.int x)))[1]? = some (.d (.int x)) := List.getElem?_set_self (by simpa [wipeD] using h1)
    refine ⟨_, rfl, ?_⟩
    by_cases q : 0 ≤ x <;> simp [e1, oLe, oLt, oCmp, q]
  exact lc_eq (vs := [1]) it this
theorem bls_map (f : Int → Bool) : ∀ ns : List Int, blsOf (ns.map fun n => D.bl (f n)) = some (ns.map f)
  | [] => rfl
  | n :: ns => by simp [blsOf, bls_map f ns]
theorem pack_ok {ns : List Int} (h : areB ns) (hl : ns.length ≤ 100000) : g_pack_bytes a [li ns] S = .ok (.byt (byteArr ns)) S := by
  have lc := pk_lc (S := S) ns hl [.d (li ns), .u] rfl (by simp)
  have nb := byteNs_of h
  have al : ((ns.map fun n => (decide (0 ≤ n) && decide (n < 256))).all id) = true := by
    rw [List.all_map]
    exact nb
  refine run_rt ?_
  show c_pack_bytes a [.d (li ns), .u] S = _
  have e1 : q_pack_bytes_1 a [.d (li ns), .u] S = .nx [.d (li ns), .u] S := by
    unfold q_pack_bytes_1
    rw [ev_sif]
    simp only [ev_tNot, ev_tB, ev_app, ev_cons, lc, R.bind, ev_nil, bAll, lstOf, itemsOf, Option.bind, bls_map, al]
    simp
  unfold c_pack_bytes
  rw [seq_nx e1]
  simp [q_pack_bytes_3, bList, itemsOf, bBytes, lstOf, ints_map, nb]
theorem pack_bad {w : Int} (h : w < 0 ∨ 255 < w) : g_pack_bytes a [li [0, w]] S = .exc ⟨a.C_InvalidCount, [], []⟩ S := by
  have lc := pk_lc (S := S) [0, w] (by simp) [.d (li [0, w]), .u] rfl (by simp)
  have al : (([0, w].map fun n => (decide (0 ≤ n) && decide (n < 256))).all id) = false := by
    simp; omega
  refine run_exc (z' := [.d (li [0, w]), .u]) ?_
  show c_pack_bytes a [.d (li [0, w]), .u] S = _
  have e1 : q_pack_bytes_1 a [.d (li [0, w]), .u] S = .exc ⟨a.C_InvalidCount, [], []⟩ [.d (li [0, w]), .u] S := by
    unfold q_pack_bytes_1
    rw [ev_sif]
    simp only [ev_tNot, ev_tB, ev_app, ev_cons, lc, R.bind, ev_nil, bAll, lstOf, itemsOf, Option.bind, bls_map, al]
    simp
  unfold c_pack_bytes
  rw [seq_exc e1]
end
section
variable {a : Ad} {ns : List Int} (hl : ns.length ≤ 63)
include hl
omit hl in
theorem cut_to (xs : List Int) {n : Nat} (h : n ≤ xs.length) : cutL (xs.map D.int) none (some (n : Int)) = (xs.take n).map D.int := by
  unfold cutL
  rw [HT.sIx_nat, HT.sIx_none, List.length_map, Nat.min_eq_left h]
  simp
omit hl in
theorem cut_from (xs : List Int) {n : Nat} (h : n ≤ xs.length) : cutL (xs.map D.int) (some (n : Int)) none = (xs.drop n).map D.int := by
  unfold cutL
  rw [HT.sIx_nat, HT.sIx_none, List.length_map, Nat.min_eq_left h, List.map_drop]
  exact List.take_of_length_le (by simp)
omit hl in
theorem cut_last (xs : List Int) : ∃ n, xs.length ≤ n + 2 ∧ cutL (xs.map D.int) (some (-2)) none = (xs.drop n).map D.int := by
  refine ⟨HT.sIx xs.length 0 (some (-2)), by simp only [HT.sIx]; rw [if_pos (by decide)]; omega, ?_⟩
  unfold cutL
  rw [HT.sIx_none, List.length_map, List.map_drop, List.take_of_length_le (by simp)]
omit hl in
theorem areB.take {xs : List Int} (h : areB xs) (n : Nat) : areB (xs.take n) := fun x hx => h x (List.mem_of_mem_take hx)
omit hl in
theorem areB.drop {xs : List Int} (h : areB xs) (n : Nat) : areB (xs.drop n) := fun x hx => h x (List.mem_of_mem_drop hx)
omit hl in
theorem cutP {S : Store} {z : Sl} {ce : CE} {xs : List Int} {n : Nat} {S0 S1 : Store} (h : n ≤ xs.length) (h1 : ce z S0 = .ok (li xs) S) {ch : CE} (h2 : ch z S = .ok (.int n) S1) : cCut ce oNone (oSome ch) z S0 = .ok (li (xs.take n)) S1 := by
  rw [ev_cut, h1]
  simp only [R.bind, ev_none, ev_some, h2, oCut, cut_to xs h]
omit hl in
theorem cutS {S : Store} {z : Sl} {ce : CE} {xs : List Int} {n : Nat} {S0 S1 : Store} (h : n ≤ xs.length) (h1 : ce z S0 = .ok (li xs) S) {ch : CE} (h2 : ch z S = .ok (.int n) S1) : cCut ce (oSome ch) oNone z S0 = .ok (li (xs.drop n)) S1 := by
  rw [ev_cut, h1]
  simp only [R.bind, ev_none, ev_some, h2, oCut, cut_from xs h]
omit hl in
theorem addL {z : Sl} {S S1 S2 : Store} {ca cb : CE} {xs ys : List Int} (h1 : ca z S = .ok (li xs) S1) (h2 : cb z S1 = .ok (li ys) S2) (h : xs.length + ys.length ≤ 1000000) : c2 oAdd ca cb z S = .ok (li (xs ++ ys)) S2 := by
  rw [ev_c2, h1]
  simp only [R.bind, h2, oAdd]
  rw [if_pos (by simp; omega)]
  simp
theorem dmg_turn {rest S : Store} (K : Kp ns rest S) (x0 : SV) (br : Int) (w : D) (b : List Int) (hb : areB b) (h1 : 1 ≤ b.length) (h2 : b.length ≤ 400) (x4 x5 x6 : SV) :
    ∃ (b' : List Int) (S' : Store) (y5 y6 : SV), b_law_damaged_6 a [.d (.ptr 0), .d (li b), .d (.int br), .d w, x4, x5, x6] S = .nx [.d (.ptr 0), .d (li b'), .d (.int br), .d w, x4, y5, y6] S' ∧ Kp ns rest S' ∧ areB b' ∧ 1 ≤ b'.length ∧ b'.length ≤ b.length + 1 := by
  obtain ⟨at_, S1, d1, K1, a0, a1⟩ := draw a K hl b.length (by omega) (by omega)
  obtain ⟨n, rfl⟩ : ∃ n : Nat, at_ = n := ⟨at_.toNat, by omega⟩
  have hn : n < b.length := by omega
  obtain ⟨o1, S2, d2, K2, o10, o11⟩ := draw a K1 hl 256 (by decide) (by decide)
  obtain ⟨o2, S3, d3, K3, o20, o21⟩ := draw a K2 hl 6 (by decide) (by decide)
  obtain ⟨r, S4, d4, K4, r0, r1⟩ := draw a K3 hl 2 (by decide) (by decide)
  obtain ⟨o, ob, ho⟩ : ∃ o : Int, isB o ∧ L2.atI [D.int o1, D.int o2] r = some (.int o) := by
    have : r = 0 ∨ r = 1 := by omega
    rcases this with rfl | rfl
    · exact ⟨o1, ⟨o10, by omega⟩, by simp⟩
    · exact ⟨o2, ⟨o20, by omega⟩, by simp⟩
  have e7 : q_law_damaged_7 a [.d (.ptr 0), .d (li b), .d (.int br), .d w, x4, x5, x6] S = .nx [.d (.ptr 0), .d (li b), .d (.int br), .d w, x4, .d (.int n), .d (.int o)] S4 := by
    simp [q_law_damaged_7, bLen, itemsOf, d1, d2, d3, d4, oIx, ho]
  have bn := hb _ (List.getElem_mem hn)
  have hat : L2.atI (b.map D.int) (n : Int) = some (.int b[n]) := L2.atI_nat (by simp [hn])
  have e12 : ∀ (b1 : List Int) (S5 : Store), ∃ b' : List Int, q_law_damaged_12 a [.d (.ptr 0), .d (li b1), .d (.int br), .d w, x4, .d (.int n), .d (.int o)] S5 = .nx [.d (.ptr 0), .d (li b'), .d (.int br), .d w, x4, .d (.int n), .d (.int o)] S5 ∧ (areB b1 → areB b') ∧ 1 ≤ b'.length ∧ b'.length ≤ max b1.length 1 := fun b1 S5 => by
    cases b1 with
    | nil =>
      refine ⟨[0], ?_, fun _ => ?_, by simp, by simp⟩
      · have := oEq_nilL' (S := S5) true
        simp only [li, List.map_nil]
        simp [q_law_damaged_12, this]
      · intro x hx; simp at hx; subst hx; exact ⟨by decide, by decide⟩
    | cons x xs =>
      refine ⟨x :: xs, ?_, fun h => h, by simp, by simp⟩
      have := oEq_cons (S := S5) true x xs
      simp only [li, List.map_cons]
      simp [q_law_damaged_12, this]
  have pre : c2 oIx (cVar 1) (cVar 5) [.d (.ptr 0), .d (li b), .d (.int br), .d w, x4, .d (.int n), .d (.int o)] S4 = .ok (.int b[n]) S4 := by
    simp only [ev_c2, ev_var, List.getElem?_cons_succ, List.getElem?_cons_zero, ev_slot, R.bind, oIx, itemsOf, hat]
  have fin : ∀ (b1 : List Int) (S5 : Store), areB b1 → b1.length ≤ b.length + 1 → Kp ns rest S5 → q_law_damaged_8 a [.d (.ptr 0), .d (li b), .d (.int br), .d w, x4, .d (.int n), .d (.int o)] S4 = .nx [.d (.ptr 0), .d (li b1), .d (.int br), .d w, x4, .d (.int n), .d (.int o)] S5 →
      ∃ (b' : List Int) (S' : Store) (y5 y6 : SV), b_law_damaged_6 a [.d (.ptr 0), .d (li b), .d (.int br), .d w, x4, x5, x6] S = .nx [.d (.ptr 0), .d (li b'), .d (.int br), .d w, x4, y5, y6] S' ∧ Kp ns rest S' ∧ areB b' ∧ 1 ≤ b'.length ∧ b'.length ≤ b.length + 1 := fun b1 S5 hb1 hl1 K5 e8 => by
    obtain ⟨b', e, f1, f2, f3⟩ := e12 b1 S5
    refine ⟨b', S5, .d (.int n), .d (.int o), ?_, K5, f1 hb1, f2, by omega⟩
    unfold b_law_damaged_6
    rw [seq_nx e7, seq_nx e8, e]
  have ta : tB (c2 oGt (cVar 2) (cK (.int 6))) [.d (.ptr 0), .d (li b), .d (.int br), .d w, x4, .d (.int n), .d (.int o)] S4 = .ok (decide (6 < br)) S4 := by simp [oGt, oCmp]
  have tb : tB (c2 oLt (c2 oIx (cVar 1) (cVar 5)) (cK (.int 128))) [.d (.ptr 0), .d (li b), .d (.int br), .d w, x4, .d (.int n), .d (.int o)] S4 = .ok (decide (b[n] < 128)) S4 := by
    rw [ev_tB, ev_c2, pre]
    simp [oLt, oCmp]
  have t1 : ∀ S', cCut (cVar 1) oNone (oSome (cVar 5)) [.d (.ptr 0), .d (li b), .d (.int br), .d w, x4, .d (.int n), .d (.int o)] S' = .ok (li (b.take n)) S' := fun S' => cutP (S := S') (S0 := S') (S1 := S') (by omega) (by simp) (by simp)
  have t2 : ∀ S', cCut (cVar 1) (oSome (c2 oAdd (cVar 5) (cK (.int 1)))) oNone [.d (.ptr 0), .d (li b), .d (.int br), .d w, x4, .d (.int n), .d (.int o)] S' = .ok (li (b.drop (n + 1))) S' := fun S' => cutS (S := S') (S0 := S') (S1 := S') (n := n + 1) (by omega) (by simp) (by simp [oAdd])
  have tl : (b.take n).length = n := by simp; omega
  have dl : (b.drop (n + 1)).length = b.length - (n + 1) := by simp
  by_cases g : 6 < br ∧ b[n] < 128
  · refine fin (b.take n ++ [b[n] + 128, 0] ++ b.drop (n + 1)) S4 (((hb.take n).app fun x hx => ?_).app (hb.drop _)) ?_ K4 ?_
    · simp only [List.mem_cons, List.not_mem_nil, or_false] at hx
      unfold isB at *
      rcases hx with rfl | rfl <;> omega
    · rw [List.length_append, List.length_append, tl, dl]; simp; omega
    · unfold q_law_damaged_8
      rw [ev_sif]
      have tc : CL.tAnd (tB (c2 oGt (cVar 2) (cK (.int 6)))) (tB (c2 oLt (c2 oIx (cVar 1) (cVar 5)) (cK (.int 128)))) [.d (.ptr 0), .d (li b), .d (.int br), .d w, x4, .d (.int n), .d (.int o)] S4 = .ok true S4 := by
        rw [ev_tAnd, ta]
        simp only [R.bind, tb, decide_eq_true g.1, decide_eq_true g.2, if_true]
      rw [tc, ev_do, if_pos rfl]
      have m : cLst (aCons (c2 oAdd (c2 oIx (cVar 1) (cVar 5)) (cK (.int 128))) (aCons (cK (.int 0)) aNil)) [.d (.ptr 0), .d (li b), .d (.int br), .d w, x4, .d (.int n), .d (.int o)] S4 = .ok (li [b[n] + 128, 0]) S4 := by
        rw [ev_lst, ev_cons, ev_c2, pre]
        simp [oAdd]
      unfold q_law_damaged_9
      rw [ev_set, addL (addL (t1 S4) m (by rw [tl]; simp; omega)) (t2 S4) (by rw [List.length_append, tl, dl]; simp; omega), ev_do]
      rfl
  · obtain ⟨r8, S5, d5, K5, r80, r81⟩ := draw a K4 hl 4 (by decide) (by decide)
    obtain ⟨mid, hm, hml, hmid⟩ : ∃ mid : List Int, areB mid ∧ mid.length ≤ 2 ∧ L2.atI [li [o], li [o], li [o, b[n]], li []] r8 = some (li mid) := by
      have o1 : areB [o] := fun x hx => by simp at hx; subst hx; exact ob
      have : r8 = 0 ∨ r8 = 1 ∨ r8 = 2 ∨ r8 = 3 := by omega
      rcases this with rfl | rfl | rfl | rfl
      · exact ⟨[o], o1, by simp, by simp⟩
      · exact ⟨[o], o1, by simp, by simp⟩
      · refine ⟨[o, b[n]], fun x hx => ?_, by simp, by simp⟩
        simp only [List.mem_cons, List.not_mem_nil, or_false] at hx
        rcases hx with rfl | rfl
        · exact ob
        · exact bn
      · exact ⟨[], (fun x hx => by cases hx), by simp, by simp⟩
    refine fin (b.take n ++ mid ++ b.drop (n + 1)) S5 (((hb.take n).app hm).app (hb.drop _)) ?_ K5 ?_
    · rw [List.length_append, List.length_append, tl, dl]; omega
    · unfold q_law_damaged_8
      rw [ev_sif]
      have tc : CL.tAnd (tB (c2 oGt (cVar 2) (cK (.int 6)))) (tB (c2 oLt (c2 oIx (cVar 1) (cVar 5)) (cK (.int 128)))) [.d (.ptr 0), .d (li b), .d (.int br), .d w, x4, .d (.int n), .d (.int o)] S4 = .ok false S4 := by
        rw [ev_tAnd, ta]
        by_cases g1 : 6 < br
        · have g2 : ¬ b[n] < 128 := fun z => g ⟨g1, z⟩
          simp only [R.bind, tb, decide_eq_true g1, decide_eq_false g2, if_true]
        · simp only [R.bind, decide_eq_false g1, Bool.false_eq_true, if_false]
      rw [tc, ev_do, if_neg (by simp)]
      have m : c2 oIx (cLst (aCons (cLst (aCons (cVar 6) aNil)) (aCons (cLst (aCons (cVar 6) aNil)) (aCons (cLst (aCons (cVar 6) (aCons (c2 oIx (cVar 1) (cVar 5)) aNil))) (aCons (cLst aNil) aNil))))) (cCall (g_law_drawn a) (aCons (cVar 0) (aCons (cK (.int 4)) aNil))) [.d (.ptr 0), .d (li b), .d (.int br), .d w, x4, .d (.int n), .d (.int o)] S4 = .ok (li mid) S5 := by
        have l1 : cLst (aCons (cVar 6) aNil) [.d (.ptr 0), .d (li b), .d (.int br), .d w, x4, .d (.int n), .d (.int o)] S4 = .ok (li [o]) S4 := by simp
        have l3 : cLst (aCons (cVar 6) (aCons (c2 oIx (cVar 1) (cVar 5)) aNil)) [.d (.ptr 0), .d (li b), .d (.int br), .d w, x4, .d (.int n), .d (.int o)] S4 = .ok (li [o, b[n]]) S4 := by
          rw [ev_lst, ev_cons]
          simp only [ev_var, List.getElem?_cons_succ, List.getElem?_cons_zero, ev_slot, R.bind, ev_cons, pre, ev_nil]
          rfl
        have l4 : cLst aNil [.d (.ptr 0), .d (li b), .d (.int br), .d w, x4, .d (.int n), .d (.int o)] S4 = .ok (li []) S4 := by simp
        have l5 : cLst (aCons (cLst (aCons (cVar 6) aNil)) (aCons (cLst (aCons (cVar 6) aNil)) (aCons (cLst (aCons (cVar 6) (aCons (c2 oIx (cVar 1) (cVar 5)) aNil))) (aCons (cLst aNil) aNil)))) [.d (.ptr 0), .d (li b), .d (.int br), .d w, x4, .d (.int n), .d (.int o)] S4 = .ok (.lst [li [o], li [o], li [o, b[n]], li []]) S4 := by
          rw [ev_lst]
          simp only [ev_cons, l1, l3, l4, R.bind, ev_nil]
          rfl
        have l6 : cCall (g_law_drawn a) (aCons (cVar 0) (aCons (cK (.int 4)) aNil)) [.d (.ptr 0), .d (li b), .d (.int br), .d w, x4, .d (.int n), .d (.int o)] S4 = .ok (.int r8) S5 := by simp [d5]
        rw [ev_c2, l5]
        simp only [R.bind, l6, oIx, itemsOf, hmid]
      unfold q_law_damaged_11
      rw [ev_set, addL (addL (t1 S4) m (by rw [tl]; omega)) (t2 S5) (by rw [List.length_append, tl, dl]; omega), ev_do]
      rfl
theorem dmg_loop {rest : Store} (x0 : SV) (br : Int) (w : D) : ∀ (ks : List D) (S : Store) (b : List Int) (x4 x5 x6 : SV), Kp ns rest S → areB b → 1 ≤ b.length → b.length + ks.length ≤ 400 →
    ∃ (b' : List Int) (S' : Store) (y4 y5 y6 : SV), loop (gN 4) (b_law_damaged_6 a) ks [.d (.ptr 0), .d (li b), .d (.int br), .d w, x4, x5, x6] S = .nx [.d (.ptr 0), .d (li b'), .d (.int br), .d w, y4, y5, y6] S' ∧ Kp ns rest S' ∧ areB b' ∧ 1 ≤ b'.length ∧ b'.length ≤ b.length + ks.length
  | [], S, b, x4, x5, x6, K, hb, h1, _ => ⟨b, S, x4, x5, x6, rfl, K, hb, h1, by simp⟩
  | k :: ks, S, b, x4, x5, x6, K, hb, h1, h2 => by
    simp only [List.length_cons] at h2
    obtain ⟨b1, S1, y5, y6, e1, K1, hb1, h11, h12⟩ := dmg_turn (a := a) hl K x0 br w b hb h1 (by omega) (.d k) x5 x6
    obtain ⟨b2, S2, z4, z5, z6, e2, K2, hb2, h21, h22⟩ := dmg_loop x0 br w ks S1 b1 (.d k) y5 y6 K1 hb1 h11 (by omega)
    refine ⟨b2, S2, z4, z5, z6, ?_, K2, hb2, h21, by simp only [List.length_cons]; omega⟩
    rw [loop_cons (z1 := [.d (.ptr 0), .d (li b), .d (.int br), .d w, .d k, x5, x6]) rfl e1]
    exact e2
theorem dmg_ok {rest S : Store} (K : Kp ns rest S) (b : List Int) (hb : areB b) (h1 : 1 ≤ b.length) (h2 : b.length ≤ 300) :
    ∃ (os : List Int) (S' : Store), g_law_damaged a [.ptr 0, li b] S = .ok (li os) S' ∧ Kp ns rest S' ∧ areB os ∧ os.length ≤ 310 := by
  obtain ⟨br, S1, d1, K1, r0, r1⟩ := draw a K hl 8 (by decide) (by decide)
  have lc := fun S' => lck_ok (a := a) (S := S') b
  have wb := hb.app (ck_b b)
  have wl : (b ++ ck b).length = b.length + 2 := by simp [ck]
  have e1 : q_law_damaged_1 a [.d (.ptr 0), .d (li b), .u, .u, .u, .u, .u] S = .nx [.d (.ptr 0), .d (li b), .d (.int br), .d (li (b ++ ck b)), .u, .u, .u] S1 := by
    have : c2 oAdd (cVar 1) (cCall (g_law_checksum a) (aCons (cVar 1) aNil)) [.d (.ptr 0), .d (li b), .u, .u, .u, .u, .u] S1 = .ok (li (b ++ ck b)) S1 := addL (S := S1) (S1 := S1) (S2 := S1) (by simp) (by simp [lc]) (by simp [ck]; omega)
    unfold q_law_damaged_1
    rw [ev_par]
    simp only [ev_cons, ev_call, ev_var, List.getElem?_cons_zero, ev_slot, R.bind, ev_k, ev_nil, d1, this, ev_do]
    rfl
  generalize hw : b ++ ck b = w at *
  by_cases g0 : br = 0
  · subst g0
    obtain ⟨n, S2, d2, K2, n0, n1⟩ := draw a K1 hl (w.length + 1) (by omega) (by omega)
    obtain ⟨n, rfl⟩ : ∃ m : Nat, n = m := ⟨n.toNat, by omega⟩
    refine ⟨w.take n, S2, run_rt ?_, K2, wb.take n, by simp; omega⟩
    show c_law_damaged a [.d (.ptr 0), .d (li b), .u, .u, .u, .u, .u] S = _
    have e2 : q_law_damaged_2 a [.d (.ptr 0), .d (li b), .d (.int 0), .d (li w), .u, .u, .u] S1 = .rt (li (w.take n)) S2 := by
      have := cutP (S := S1) (z := [.d (.ptr 0), .d (li b), .d (.int 0), .d (li w), .u, .u, .u]) (ce := cVar 3) (xs := w) (n := n) (S0 := S1) (S1 := S2) (by omega) (by simp) (ch := cCall (g_law_drawn a) (aCons (cVar 0) (aCons (c2 oAdd (cApp bLen (aCons (cVar 3) aNil)) (cK (.int 1))) aNil))) (by simp [bLen, itemsOf, oAdd, d2])
      unfold q_law_damaged_2 q_law_damaged_3
      rw [ev_sif, show tB (c2 (oEq false) (cVar 2) (cK (.int 0))) [.d (.ptr 0), .d (li b), .d (.int 0), .d (li w), .u, .u, .u] S1 = .ok true S1 by simp, ev_do, if_pos rfl, ev_ret, this, ev_do]
    unfold c_law_damaged
    rw [seq_nx e1, seq_rt e2]
  · have e2 : q_law_damaged_2 a [.d (.ptr 0), .d (li b), .d (.int br), .d (li w), .u, .u, .u] S1 = .nx [.d (.ptr 0), .d (li b), .d (.int br), .d (li w), .u, .u, .u] S1 := by simp [q_law_damaged_2, g0]
    by_cases g1 : br = 1
    · subst g1
      obtain ⟨v, S2, d2, K2, v0, v1⟩ := draw a K1 hl 256 (by decide) (by decide)
      refine ⟨w ++ [v], S2, run_rt ?_, K2, wb.app (fun x hx => by simp at hx; subst hx; exact ⟨v0, by omega⟩), by simp; omega⟩
      show c_law_damaged a [.d (.ptr 0), .d (li b), .u, .u, .u, .u, .u] S = _
      have e4 : q_law_damaged_4 a [.d (.ptr 0), .d (li b), .d (.int 1), .d (li w), .u, .u, .u] S1 = .rt (li (w ++ [v])) S2 := by
        have := addL (z := [.d (.ptr 0), .d (li b), .d (.int 1), .d (li w), .u, .u, .u]) (S := S1) (S1 := S1) (S2 := S2) (ca := cVar 3) (cb := cLst (aCons (cCall (g_law_drawn a) (aCons (cVar 0) (aCons (cK (.int 256)) aNil))) aNil)) (xs := w) (ys := [v]) (by simp) (by simp [d2]) (by simp; omega)
        unfold q_law_damaged_4 q_law_damaged_5
        rw [ev_sif, show tB (c2 (oEq false) (cVar 2) (cK (.int 1))) [.d (.ptr 0), .d (li b), .d (.int 1), .d (li w), .u, .u, .u] S1 = .ok true S1 by simp, ev_do, if_pos rfl, ev_ret, this, ev_do]
      unfold c_law_damaged
      rw [seq_nx e1, seq_nx e2, seq_rt e4]
    · have e4 : q_law_damaged_4 a [.d (.ptr 0), .d (li b), .d (.int br), .d (li w), .u, .u, .u] S1 = .nx [.d (.ptr 0), .d (li b), .d (.int br), .d (li w), .u, .u, .u] S1 := by simp [q_law_damaged_4, g1]
      obtain ⟨m, S2, d2, K2, m0, m1⟩ := draw a K1 hl 3 (by decide) (by decide)
      obtain ⟨m, rfl⟩ : ∃ n : Nat, m = n := ⟨m.toNat, by omega⟩
      obtain ⟨b2, S3, y4, y5, y6, e6, K3, hb2, h21, h22⟩ := dmg_loop (a := a) (rest := rest) hl .u br (li w) ((List.range' 0 m).map fun (k : Nat) => D.int (k : Int)) S2 b .u .u .u K2 hb h1 (by simp; omega)
      simp only [List.length_map, List.length_range'] at h22
      have p6 : q_law_damaged_6 a [.d (.ptr 0), .d (li b), .d (.int br), .d (li w), .u, .u, .u] S1 = .nx [.d (.ptr 0), .d (li b2), .d (.int br), .d (li w), y4, y5, y6] S3 := by
        have it : CL.iRange1 (cCall (g_law_drawn a) (aCons (cVar 0) (aCons (cK (.int 3)) aNil))) [.d (.ptr 0), .d (li b), .d (.int br), .d (li w), .u, .u, .u] S1 = .ok ((List.range' 0 m).map fun (k : Nat) => D.int (k : Int)) S2 := iRange1_nat (by simp [d2]) (by omega)
        unfold q_law_damaged_6
        rw [ev_for, it, ev_do]
        exact e6
      have lc2 := lck_ok (a := a) (S := S3) b2
      have p13 : ∃ os, q_law_damaged_13 a [.d (.ptr 0), .d (li b2), .d (.int br), .d (li w), y4, y5, y6] S3 = .rt (li os) S3 ∧ areB os ∧ os.length ≤ 310 := by
        by_cases g2 : br = 2
        · subst g2
          obtain ⟨n, hn2, hn⟩ := cut_last w
          have c13 : cCut (cVar 3) (oSome (c2 oSub (cK (.int 0)) (cK (.int 2)))) oNone [.d (.ptr 0), .d (li b2), .d (.int 2), .d (li w), y4, y5, y6] S3 = .ok (li (w.drop n)) S3 := by
            rw [ev_cut]
            simp only [ev_var, List.getElem?_cons_succ, List.getElem?_cons_zero, ev_slot, R.bind, ev_none, ev_some, ev_c2, ev_k, oSub, oCut]
            rw [show (0 : Int) - 2 = -2 from rfl, hn]
          have := addL (z := [.d (.ptr 0), .d (li b2), .d (.int 2), .d (li w), y4, y5, y6]) (S := S3) (S1 := S3) (ca := cVar 1) (xs := b2) (by simp) c13 (by simp; omega)
          refine ⟨b2 ++ w.drop n, ?_, hb2.app (wb.drop n), by simp; omega⟩
          unfold q_law_damaged_13
          rw [ev_ret, ev_if, show tB (c2 (oEq false) (cVar 2) (cK (.int 2))) [.d (.ptr 0), .d (li b2), .d (.int 2), .d (li w), y4, y5, y6] S3 = .ok true S3 by simp]
          simp only [R.bind, if_true, this, ev_do]
        · have := addL (z := [.d (.ptr 0), .d (li b2), .d (.int br), .d (li w), y4, y5, y6]) (S := S3) (S1 := S3) (S2 := S3) (ca := cVar 1) (cb := cCall (g_law_checksum a) (aCons (cVar 1) aNil)) (xs := b2) (ys := ck b2) (by simp) (by simp [lc2]) (by simp [ck]; omega)
          refine ⟨b2 ++ ck b2, ?_, hb2.app (ck_b b2), by simp [ck]; omega⟩
          unfold q_law_damaged_13
          rw [ev_ret, ev_if, show tB (c2 (oEq false) (cVar 2) (cK (.int 2))) [.d (.ptr 0), .d (li b2), .d (.int br), .d (li w), y4, y5, y6] S3 = .ok false S3 by simp [g2]]
          simp only [R.bind, this, ev_do, Bool.false_eq_true, if_false]
      obtain ⟨os, e13, o1, o2⟩ := p13
      refine ⟨os, S3, run_rt ?_, K3, o1, o2⟩
      show c_law_damaged a [.d (.ptr 0), .d (li b), .u, .u, .u, .u, .u] S = _
      unfold c_law_damaged
      rw [seq_nx e1, seq_nx e2, seq_nx e4, seq_nx p6, e13]
end
end Law
set_option Elab.async false
set_option linter.all false
set_option maxRecDepth 100000
set_option maxHeartbeats 4000000
namespace Law
open PySem CL
variable [TheK]
/-- what is read, or where it fails -/
inductive Rr (α : Type) where
  | ok (v : α) (i : Nat) | bad (e : Nat)
def rdB (o : List Int) (lo hi : Int) (i : Nat) : Rr Int := match o[i]? with
  | some v => if lo ≤ v ∧ v ≤ hi then .ok v (i + 1) else .bad i
  | none => .bad i
def lifeGo (o : List Int) : Nat → Nat → Int → Int → Rr Int
  | 0, i, _, _ => .bad i
  | f + 1, i, t, w => match rdB o 0 255 i with
    | .bad e => .bad e
    | .ok v i' => if v = 0 ∧ 1 < w then .bad (i' - 1) else if 128 ≤ v then lifeGo o f i' (t + v % 128 * w) (w * 128) else .ok (t + v % 128 * w) i'
def rdLife (o : List Int) (i : Nat) : Rr Int := match lifeGo o (o.length + 1) i 0 1 with
  | .bad e => .bad e
  | .ok t i' => if 1000000000000000000 < t then .bad i else .ok t i'
def rdBr (o : List Int) (c : Int) (i : Nat) : Rr Quad := match rdB o 0 (c - 1) i with
  | .bad e => .bad e
  | .ok one i1 => match rdB o 0 (c - 1) i1 with
    | .bad e => .bad e
    | .ok other i2 => if one = other then .bad i1 else match rdB o 1 99 i2 with
      | .bad e => .bad e
      | .ok len i3 => match rdLife o i3 with
        | .bad e => .bad e
        | .ok life i4 => .ok ⟨one, other, len, life⟩ i4
def rdBrs (o : List Int) (c : Int) : Nat → Nat → Rr (List Quad)
  | 0, i => .ok [] i
  | n + 1, i => match rdBr o c i with
    | .bad e => .bad e
    | .ok q i1 => match rdBrs o c n i1 with
      | .bad e => .bad e
      | .ok qs i2 => .ok (q :: qs) i2
def rdEach (o : List Int) : List Int → Nat → Rr Unit
  | [], i => .ok () i
  | v :: vs, i => match rdB o v v i with
    | .bad e => .bad e
    | .ok _ i1 => rdEach o vs i1
def rdTown (o : List Int) : Rr (Int × List Quad) := match rdB o 84 84 0 with
  | .bad e => .bad e
  | .ok _ i1 => match rdB o 1 12 i1 with
    | .bad e => .bad e
    | .ok c i2 => match rdB o 0 24 i2 with
      | .bad e => .bad e
      | .ok n i3 => match rdBrs o c n.toNat i3 with
        | .bad e => .bad e
        | .ok qs i4 => match rdEach o (ck (o.take i4)) i4 with
          | .bad e => .bad e
          | .ok _ i5 => if i5 < o.length then .bad i5 else .ok (c, qs) i5
theorem rdB_ok {o : List Int} {lo hi v : Int} {i j : Nat} (h : rdB o lo hi i = .ok v j) : o[i]? = some v ∧ (lo ≤ v ∧ v ≤ hi) ∧ j = i + 1 ∧ i < o.length := by
  unfold rdB at h
  cases q : o[i]? with
  | none => rw [q] at h; cases h
  | some u =>
    rw [q] at h
    simp only at h
    split at h
    · rename_i hh; cases h; exact ⟨rfl, hh, rfl, (List.getElem?_eq_some_iff.mp q).1⟩
    · cases h
theorem rdB_cases (o : List Int) (lo hi : Int) (i : Nat) : (∃ v, o[i]? = some v ∧ (lo ≤ v ∧ v ≤ hi) ∧ rdB o lo hi i = .ok v (i + 1)) ∨ rdB o lo hi i = .bad i ∧ ∀ v, o[i]? = some v → ¬ (lo ≤ v ∧ v ≤ hi) := by
  unfold rdB
  cases q : o[i]? with
  | none => exact .inr ⟨rfl, fun v h => by cases h⟩
  | some u =>
    by_cases h : lo ≤ u ∧ u ≤ hi
    · exact .inl ⟨u, rfl, h, by simp [h]⟩
    · exact .inr ⟨by simp [h], fun v hv => by cases hv; exact h⟩
/-- exceptions -/
def exD (a : Ad) (e : Nat) : Exn := ⟨a.C_InvalidData, [("offset" : Str)], [.int e]⟩
abbrev rdO (a : Ad) (o : List Int) (i : Nat) : MO := .ins a.C_TownReader [("octets" : Str), ("cursor" : Str)] [li o, .int i]
/-- the reader at r, its cursor at i -/
abbrev rs (a : Ad) (o : List Int) (r : Nat) (S : Store) (i : Nat) : Store := S.set r (rdO a o i)
theorem noc : ¬ (("octets" : Str) = ("cursor" : Str)) := by decide +kernel
@[simp] theorem lk_cur (v w : D) : List.lookup ("cursor" : Str) [(("octets" : Str), v), (("cursor" : Str), w)] = some w := by
  rw [List.lookup_cons, show (("cursor" : Str) == ("octets" : Str)) = false by decide +kernel]; simp
section
variable {a : Ad} {o : List Int} {r : Nat} {S : Store} (hr : r < S.length)
include hr
theorem rs_at (i : Nat) : (rs a o r S i)[r]? = some (rdO a o i) := List.getElem?_set_self hr
theorem fail_ok (e i : Nat) : g_TownReader_fail a [.ptr r, .int e] (rs a o r S i) = .exc (exD a e) (rs a o r S i) := by
  refine run_exc (z' := [.d (.ptr r), .d (.int e)]) ?_
  show c_TownReader_fail a [.d (.ptr r), .d (.int e)] (rs a o r S i) = _
  simp [c_TownReader_fail, q_TownReader_fail_1, sRaiseK, exD]
theorem read_ok (lo hi : Int) (i : Nat) (hi' : i ≤ o.length) (hl : o.length ≤ 100000) : g_TownReader_read a [.ptr r, .int lo, .int hi] (rs a o r S i) = match rdB o lo hi i with
    | .ok v j => .ok (.int v) (rs a o r S j)
    | .bad e => .exc (exD a e) (rs a o r S i) := by
  have at_ := rs_at (a := a) (o := o) hr i
  have fl := fail_ok (a := a) (o := o) hr i i
  have cl : classOf (rs a o r S i) (.ptr r) = some (a.C_TownReader, [("octets" : Str), ("cursor" : Str)]) := by simp [classOf, at_]
  have fc : cFld a.C_TownReader ("cursor" : Str) (cVar 0) [.d (.ptr r), .d (.int lo), .d (.int hi)] (rs a o r S i) = .ok (.int i) (rs a o r S i) := by simp [cl, fieldOf, at_]
  have fo : cFld a.C_TownReader ("octets" : Str) (cVar 0) [.d (.ptr r), .d (.int lo), .d (.int hi)] (rs a o r S i) = .ok (li o) (rs a o r S i) := by simp [cl, fieldOf, at_]
  have t1 : tB (c2 (oEq false) (cFld a.C_TownReader ("cursor" : Str) (cVar 0)) (cApp bLen (aCons (cFld a.C_TownReader ("octets" : Str) (cVar 0)) aNil))) [.d (.ptr r), .d (.int lo), .d (.int hi)] (rs a o r S i) = .ok (decide (i = o.length)) (rs a o r S i) := by
    rw [ev_tB, ev_c2, fc]
    simp only [R.bind, ev_app, ev_cons, fo, ev_nil, bLen, itemsOf, oEq_int, List.length_map]
    simp
    constructor <;> intro h <;> omega
  have bad : q_TownReader_read_2 a [.d (.ptr r), .d (.int lo), .d (.int hi)] (rs a o r S i) = .exc (exD a i) [.d (.ptr r), .d (.int lo), .d (.int hi)] (rs a o r S i) := by
    have nf : ("fail" : Str) ∉ [("octets" : Str), ("cursor" : Str)] := by decide +kernel
    unfold q_TownReader_read_2
    rw [ev_expr, ev_meth]
    simp only [ev_var, List.getElem?_cons_zero, ev_slot, R.bind, cl]
    rw [if_pos ⟨trivial, nf⟩, ev_cons, fc]
    simp only [R.bind, ev_nil, fl, ev_doX]
  rcases rdB_cases o lo hi i with ⟨v, hv, hb, e⟩ | ⟨e, hn⟩
  · rw [e]
    have hlt := (List.getElem?_eq_some_iff.mp hv).1
    have hat : L2.atI (o.map D.int) (i : Int) = some (.int v) := L2.atI_nat (by simp [hv])
    have t2 : tB (cChain oLe oLe (cVar 1) (c2 oIx (cFld a.C_TownReader ("octets" : Str) (cVar 0)) (cFld a.C_TownReader ("cursor" : Str) (cVar 0))) (cVar 2)) [.d (.ptr r), .d (.int lo), .d (.int hi)] (rs a o r S i) = .ok true (rs a o r S i) := by
      rw [ev_tB, ev_chain]
      simp only [ev_var, List.getElem?_cons_succ, List.getElem?_cons_zero, ev_slot, R.bind, ev_c2, fo, fc, oIx, itemsOf, hat, oLe, oCmp, decide_eq_true hb.1, decide_eq_true hb.2, if_true]
    have p1 : q_TownReader_read_1 a [.d (.ptr r), .d (.int lo), .d (.int hi)] (rs a o r S i) = .nx [.d (.ptr r), .d (.int lo), .d (.int hi)] (rs a o r S i) := by
      have hne : ¬ (i = o.length) := by omega
      unfold q_TownReader_read_1
      rw [ev_sif, ev_tOr, t1, decide_eq_false hne]
      simp only [R.bind, Bool.false_eq_true, if_false, ev_tNot, t2, Bool.not_true, ev_do, ev_sNil]
    have p3 : q_TownReader_read_3 a [.d (.ptr r), .d (.int lo), .d (.int hi)] (rs a o r S i) = .nx [.d (.ptr r), .d (.int lo), .d (.int hi)] (rs a o r S (i + 1)) := by
      unfold q_TownReader_read_3
      rw [ev_fldaug]
      simp only [ev_var, List.getElem?_cons_zero, ev_slot, ev_do, at_, List.zip_cons_cons, List.zip_nil_right, lk_cur, if_true, ev_k]
      simp [putN, noc, rs]
      rfl
    have at2 := rs_at (a := a) (o := o) hr (i + 1)
    have cl2 : classOf (rs a o r S (i + 1)) (.ptr r) = some (a.C_TownReader, [("octets" : Str), ("cursor" : Str)]) := by simp [classOf, at2]
    refine run_rt ?_
    show c_TownReader_read a [.d (.ptr r), .d (.int lo), .d (.int hi)] (rs a o r S i) = _
    unfold c_TownReader_read
    rw [seq_nx p1, seq_nx p3]
    simp [q_TownReader_read_4, cl2, fieldOf, at2, oSub, oIx, itemsOf, hat]
  · rw [e]
    refine run_exc (z' := [.d (.ptr r), .d (.int lo), .d (.int hi)]) ?_
    show c_TownReader_read a [.d (.ptr r), .d (.int lo), .d (.int hi)] (rs a o r S i) = _
    have p1 : q_TownReader_read_1 a [.d (.ptr r), .d (.int lo), .d (.int hi)] (rs a o r S i) = .exc (exD a i) [.d (.ptr r), .d (.int lo), .d (.int hi)] (rs a o r S i) := by
      unfold q_TownReader_read_1
      rw [ev_sif, ev_tOr, t1]
      by_cases hne : i = o.length
      · simp only [decide_eq_true hne, R.bind, if_true, ev_do, bad]
      · have hlt : i < o.length := by omega
        have hat : L2.atI (o.map D.int) (i : Int) = some (.int o[i]) := L2.atI_nat (by simp [hlt])
        have hb := hn o[i] (List.getElem?_eq_getElem hlt)
        have t2 : tB (cChain oLe oLe (cVar 1) (c2 oIx (cFld a.C_TownReader ("octets" : Str) (cVar 0)) (cFld a.C_TownReader ("cursor" : Str) (cVar 0))) (cVar 2)) [.d (.ptr r), .d (.int lo), .d (.int hi)] (rs a o r S i) = .ok false (rs a o r S i) := by
          rw [ev_tB, ev_chain]
          simp only [ev_var, List.getElem?_cons_succ, List.getElem?_cons_zero, ev_slot, R.bind, ev_c2, fo, fc, oIx, itemsOf, hat, oLe, oCmp]
          by_cases h1 : lo ≤ o[i]
          · have h2 : ¬ o[i] ≤ hi := fun z => hb ⟨h1, z⟩
            simp [h1, h2]
          · simp [h1]
        simp only [decide_eq_false hne, R.bind, Bool.false_eq_true, if_false, ev_tNot, t2, Bool.not_false, ev_do, if_true, bad]
    unfold c_TownReader_read
    rw [seq_exc p1]
end
end Law
set_option Elab.async false
set_option linter.all false
set_option maxRecDepth 100000
set_option maxHeartbeats 4000000
namespace Law
open PySem CL
variable [TheK]
section
variable {a : Ad} {o : List Int} {r : Nat} {S : Store} (hr : r < S.length) (hl : o.length ≤ 310)
include hr hl
theorem m_read {z : Sl} {i : Nat} (hi : i ≤ o.length) (hz : z[0]? = some (.d (.ptr r))) {cl ch : CE} {lo hi' : Int} (h1 : cl z (rs a o r S i) = .ok (.int lo) (rs a o r S i)) (h2 : ch z (rs a o r S i) = .ok (.int hi') (rs a o r S i)) :
    cMeth a.C_TownReader ("read" : Str) (g_TownReader_read a) (cVar 0) (aCons cl (aCons ch aNil)) z (rs a o r S i) = match rdB o lo hi' i with
      | .ok v j => .ok (.int v) (rs a o r S j)
      | .bad e => .exc (exD a e) (rs a o r S i) := by
  have at_ := rs_at (a := a) (o := o) hr i
  have cl_ : classOf (rs a o r S i) (.ptr r) = some (a.C_TownReader, [("octets" : Str), ("cursor" : Str)]) := by simp [classOf, at_]
  have nf : ("read" : Str) ∉ [("octets" : Str), ("cursor" : Str)] := by decide +kernel
  rw [ev_meth]
  simp only [ev_var, hz, ev_slot, R.bind, cl_]
  rw [if_pos ⟨trivial, nf⟩]
  simp only [ev_cons, h1, h2, R.bind, ev_nil]
  exact read_ok hr lo hi' i hi (by omega)
omit hl in
theorem m_fail {z : Sl} {i e : Nat} (hz : z[0]? = some (.d (.ptr r))) {ce : CE} (h1 : ce z (rs a o r S i) = .ok (.int e) (rs a o r S i)) :
    sExpr (cMeth a.C_TownReader ("fail" : Str) (g_TownReader_fail a) (cVar 0) (aCons ce aNil)) z (rs a o r S i) = .exc (exD a e) z (rs a o r S i) := by
  have at_ := rs_at (a := a) (o := o) hr i
  have cl_ : classOf (rs a o r S i) (.ptr r) = some (a.C_TownReader, [("octets" : Str), ("cursor" : Str)]) := by simp [classOf, at_]
  have nf : ("fail" : Str) ∉ [("octets" : Str), ("cursor" : Str)] := by decide +kernel
  rw [ev_expr, ev_meth]
  simp only [ev_var, hz, ev_slot, R.bind, cl_]
  rw [if_pos ⟨trivial, nf⟩]
  simp only [ev_cons, h1, R.bind, ev_nil, fail_ok hr e i, ev_doX]
omit hl in
theorem f_cur {z : Sl} {i : Nat} (hz : z[0]? = some (.d (.ptr r))) : cFld a.C_TownReader ("cursor" : Str) (cVar 0) z (rs a o r S i) = .ok (.int i) (rs a o r S i) := by
  have at_ := rs_at (a := a) (o := o) hr i
  simp [hz, classOf, fieldOf, at_]
omit hl in
theorem f_oct {z : Sl} {i : Nat} (hz : z[0]? = some (.d (.ptr r))) : cFld a.C_TownReader ("octets" : Str) (cVar 0) z (rs a o r S i) = .ok (li o) (rs a o r S i) := by
  have at_ := rs_at (a := a) (o := o) hr i
  simp [hz, classOf, fieldOf, at_]
theorem life_go (st : SV) : ∀ (f n i : Nat) (t w v0 : Int), o.length < i + f → i ≤ o.length → f < n → 128 ≤ v0 →
    match lifeGo o f i t w with
    | .ok t' j => ∃ w' v', wloop (tB (c2 oGe (cVar 4) (cK (.int 128)))) (b_TownReader_read_life_3 a) n [.d (.ptr r), st, .d (.int t), .d (.int w), .d (.int v0)] (rs a o r S i) = .nx [.d (.ptr r), st, .d (.int t'), w', v'] (rs a o r S j) ∧ j ≤ o.length
    | .bad e => ∃ z' j, wloop (tB (c2 oGe (cVar 4) (cK (.int 128)))) (b_TownReader_read_life_3 a) n [.d (.ptr r), st, .d (.int t), .d (.int w), .d (.int v0)] (rs a o r S i) = .exc (exD a e) z' (rs a o r S j)
  | 0, n, i, t, w, v0, h1, h2, _, _ => by omega
  | f + 1, 0, i, t, w, v0, h1, h2, h3, h4 => by omega
  | f + 1, n + 1, i, t, w, v0, h1, h2, h3, h4 => by
    have tt : tB (c2 oGe (cVar 4) (cK (.int 128))) [.d (.ptr r), st, .d (.int t), .d (.int w), .d (.int v0)] (rs a o r S i) = .ok true (rs a o r S i) := by simp [oGe, oCmp, h4]
    have rd := m_read (a := a) hr hl (z := [.d (.ptr r), st, .d (.int t), .d (.int w), .d (.int v0)]) h2 rfl (cl := cK (.int 0)) (ch := c2 oSub (cK (.int 256)) (cK (.int 1))) (lo := 0) (hi' := 255) (by simp) (by simp [oSub])
    unfold lifeGo
    rcases rdB_cases o 0 255 i with ⟨v, hv, hb, e⟩ | ⟨e, hn⟩
    · rw [e] at rd
      rw [e]
      simp only at rd ⊢
      have p4 : q_TownReader_read_life_4 a [.d (.ptr r), st, .d (.int t), .d (.int w), .d (.int v0)] (rs a o r S i) = .nx [.d (.ptr r), st, .d (.int t), .d (.int w), .d (.int v)] (rs a o r S (i + 1)) := by
        unfold q_TownReader_read_life_4
        rw [ev_set, rd, ev_do]
        rfl
      by_cases g : v = 0 ∧ 1 < w
      · rw [if_pos g]
        simp only
        have p5 : q_TownReader_read_life_5 a [.d (.ptr r), st, .d (.int t), .d (.int w), .d (.int v)] (rs a o r S (i + 1)) = .exc (exD a i) [.d (.ptr r), st, .d (.int t), .d (.int w), .d (.int v)] (rs a o r S (i + 1)) := by
          have mf := m_fail (a := a) (o := o) (S := S) hr (z := [.d (.ptr r), st, .d (.int t), .d (.int w), .d (.int v)]) (i := i + 1) (e := i) rfl (ce := c2 oSub (cFld a.C_TownReader ("cursor" : Str) (cVar 0)) (cK (.int 1))) (by
            rw [ev_c2, f_cur hr rfl]
            simp [oSub])
          unfold q_TownReader_read_life_5 q_TownReader_read_life_6
          rw [ev_sif, show CL.tAnd (tB (c2 (oEq false) (cVar 4) (cK (.int 0)))) (tB (c2 oGt (cVar 3) (cK (.int 1)))) [.d (.ptr r), st, .d (.int t), .d (.int w), .d (.int v)] (rs a o r S (i + 1)) = .ok true (rs a o r S (i + 1)) by simp [oGt, oCmp, g.1, g.2], ev_do, if_pos rfl, mf]
        refine ⟨[.d (.ptr r), st, .d (.int t), .d (.int w), .d (.int v)], i + 1, ?_⟩
        have : b_TownReader_read_life_3 a [.d (.ptr r), st, .d (.int t), .d (.int w), .d (.int v0)] (rs a o r S i) = .exc (exD a i) [.d (.ptr r), st, .d (.int t), .d (.int w), .d (.int v)] (rs a o r S (i + 1)) := by
          unfold b_TownReader_read_life_3
          rw [seq_nx p4, seq_exc p5]
        unfold wloop
        rw [tt, ev_do, if_pos rfl, this]
        rfl
      · rw [if_neg g]
        have p5 : q_TownReader_read_life_5 a [.d (.ptr r), st, .d (.int t), .d (.int w), .d (.int v)] (rs a o r S (i + 1)) = .nx [.d (.ptr r), st, .d (.int t), .d (.int w), .d (.int v)] (rs a o r S (i + 1)) := by
          unfold q_TownReader_read_life_5
          rw [ev_sif, show CL.tAnd (tB (c2 (oEq false) (cVar 4) (cK (.int 0)))) (tB (c2 oGt (cVar 3) (cK (.int 1)))) [.d (.ptr r), st, .d (.int t), .d (.int w), .d (.int v)] (rs a o r S (i + 1)) = .ok false (rs a o r S (i + 1)) by
            by_cases g1 : v = 0
            · have g2 : ¬ 1 < w := fun z => g ⟨g1, z⟩
              simp [oGt, oCmp, g1, g2]
            · simp [oGt, oCmp, g1]]
          rfl
        have hm := Int.emod_nonneg v (show (128 : Int) ≠ 0 by decide)
        have hm2 := Int.emod_lt_of_pos v (show (0 : Int) < 128 by decide)
        have sm : smallI (v % 128) = true := by simp [smallI]; omega
        have p7 : q_TownReader_read_life_7 a [.d (.ptr r), st, .d (.int t), .d (.int w), .d (.int v)] (rs a o r S (i + 1)) = .nx [.d (.ptr r), st, .d (.int (t + v % 128 * w)), .d (.int w), .d (.int v)] (rs a o r S (i + 1)) := by
          simp [q_TownReader_read_life_7, sAug, bInt, oMod, oMul, sm]
        have pw : sAugM 3 (cK (.int 128)) [.d (.ptr r), st, .d (.int (t + v % 128 * w)), .d (.int w), .d (.int v)] (rs a o r S (i + 1)) = .nx [.d (.ptr r), st, .d (.int (t + v % 128 * w)), .d (.int (w * 128)), .d (.int v)] (rs a o r S (i + 1)) := by
          simp [smallI]
        have bb : b_TownReader_read_life_3 a [.d (.ptr r), st, .d (.int t), .d (.int w), .d (.int v0)] (rs a o r S i) = .nx [.d (.ptr r), st, .d (.int (t + v % 128 * w)), .d (.int (w * 128)), .d (.int v)] (rs a o r S (i + 1)) := by
          unfold b_TownReader_read_life_3
          rw [seq_nx p4, seq_nx p5, seq_nx p7, pw]
        have hlt := (List.getElem?_eq_some_iff.mp hv).1
        by_cases g2 : 128 ≤ v
        · rw [if_pos g2]
          have ih := life_go st f n (i + 1) (t + v % 128 * w) (w * 128) v (by omega) (by omega) (by omega) g2
          unfold wloop
          rw [tt, ev_do, if_pos rfl, bb]
          exact ih
        · rw [if_neg g2]
          simp only
          refine ⟨.d (.int (w * 128)), .d (.int v), ?_, by omega⟩
          have t2 : tB (c2 oGe (cVar 4) (cK (.int 128))) [.d (.ptr r), st, .d (.int (t + v % 128 * w)), .d (.int (w * 128)), .d (.int v)] (rs a o r S (i + 1)) = .ok false (rs a o r S (i + 1)) := by simp [oGe, oCmp]; omega
          obtain ⟨m, rfl⟩ : ∃ m, n = m + 1 := ⟨n - 1, by omega⟩
          unfold wloop
          rw [tt, ev_do, if_pos rfl, bb]
          simp only
          unfold wloop
          rw [t2, ev_do]
          rfl
    · rw [e] at rd
      rw [e]
      simp only at rd ⊢
      refine ⟨[.d (.ptr r), st, .d (.int t), .d (.int w), .d (.int v0)], i, ?_⟩
      have p4 : q_TownReader_read_life_4 a [.d (.ptr r), st, .d (.int t), .d (.int w), .d (.int v0)] (rs a o r S i) = .exc (exD a i) [.d (.ptr r), st, .d (.int t), .d (.int w), .d (.int v0)] (rs a o r S i) := by
        unfold q_TownReader_read_life_4
        rw [ev_set, rd, ev_doX]
      have : b_TownReader_read_life_3 a [.d (.ptr r), st, .d (.int t), .d (.int w), .d (.int v0)] (rs a o r S i) = .exc (exD a i) [.d (.ptr r), st, .d (.int t), .d (.int w), .d (.int v0)] (rs a o r S i) := by
        unfold b_TownReader_read_life_3
        rw [seq_exc p4]
      unfold wloop
      rw [tt, ev_do, if_pos rfl, this]
theorem life_ok (i : Nat) (hi : i ≤ o.length) : match rdLife o i with
    | .ok t j => g_TownReader_read_life a [.ptr r] (rs a o r S i) = .ok (.int t) (rs a o r S j) ∧ j ≤ o.length
    | .bad e => ∃ j, g_TownReader_read_life a [.ptr r] (rs a o r S i) = .exc (exD a e) (rs a o r S j) := by
  have lg := life_go (a := a) hr hl (.d (.int i)) (o.length + 1) 400 i 0 1 128 (by omega) hi (by omega) (by decide)
  have p1 : q_TownReader_read_life_1 a [.d (.ptr r), .u, .u, .u, .u] (rs a o r S i) = .nx [.d (.ptr r), .d (.int i), .d (.int 0), .d (.int 1), .u] (rs a o r S i) := by
    unfold q_TownReader_read_life_1
    rw [ev_par3, ev_cons, f_cur hr rfl]
    simp
  have p2 : sSet 4 (cK (.int 128)) [.d (.ptr r), .d (.int i), .d (.int 0), .d (.int 1), .u] (rs a o r S i) = .nx [.d (.ptr r), .d (.int i), .d (.int 0), .d (.int 1), .d (.int 128)] (rs a o r S i) := by simp
  unfold rdLife
  cases q : lifeGo o (o.length + 1) i 0 1 with
  | bad e =>
    rw [q] at lg
    obtain ⟨z', j, lg⟩ := lg
    refine ⟨j, run_exc (z' := z') ?_⟩
    show c_TownReader_read_life a [.d (.ptr r), .u, .u, .u, .u] (rs a o r S i) = _
    unfold c_TownReader_read_life
    rw [seq_nx p1, seq_nx p2, seq_exc (show q_TownReader_read_life_3 a [.d (.ptr r), .d (.int i), .d (.int 0), .d (.int 1), .d (.int 128)] (rs a o r S i) = .exc (exD a e) z' (rs a o r S j) from lg)]
  | ok t j =>
    rw [q] at lg
    obtain ⟨w', v', lg, hj⟩ := lg
    simp only
    by_cases g : 1000000000000000000 < t
    · rw [if_pos g]
      refine ⟨j, run_exc (z' := [.d (.ptr r), .d (.int i), .d (.int t), w', v']) ?_⟩
      show c_TownReader_read_life a [.d (.ptr r), .u, .u, .u, .u] (rs a o r S i) = _
      have mf := m_fail (a := a) (o := o) (S := S) hr (z := [.d (.ptr r), .d (.int i), .d (.int t), w', v']) (i := j) (e := i) rfl (ce := cVar 1) (by simp)
      have p9 : q_TownReader_read_life_9 a [.d (.ptr r), .d (.int i), .d (.int t), w', v'] (rs a o r S j) = .exc (exD a i) [.d (.ptr r), .d (.int i), .d (.int t), w', v'] (rs a o r S j) := by
        unfold q_TownReader_read_life_9 q_TownReader_read_life_10
        rw [ev_sif, show tB (c2 oGt (cVar 2) (cVal a.C_Town (.int 1000000000000000000) (cK (.ref a.C_Town)))) [.d (.ptr r), .d (.int i), .d (.int t), w', v'] (rs a o r S j) = .ok true (rs a o r S j) by simp [oGt, oCmp, g], ev_do, if_pos rfl, mf]
      unfold c_TownReader_read_life
      rw [seq_nx p1, seq_nx p2, seq_nx (show q_TownReader_read_life_3 a [.d (.ptr r), .d (.int i), .d (.int 0), .d (.int 1), .d (.int 128)] (rs a o r S i) = .nx [.d (.ptr r), .d (.int i), .d (.int t), w', v'] (rs a o r S j) from lg), seq_exc p9]
    · rw [if_neg g]
      refine ⟨run_rt ?_, hj⟩
      show c_TownReader_read_life a [.d (.ptr r), .u, .u, .u, .u] (rs a o r S i) = _
      unfold c_TownReader_read_life
      rw [seq_nx p1, seq_nx p2, seq_nx (show q_TownReader_read_life_3 a [.d (.ptr r), .d (.int i), .d (.int 0), .d (.int 1), .d (.int 128)] (rs a o r S i) = .nx [.d (.ptr r), .d (.int i), .d (.int t), w', v'] (rs a o r S j) from lg)]
      simp [q_TownReader_read_life_9, oGt, oCmp, g]
theorem br_ok (c : Int) (i : Nat) (hi : i ≤ o.length) : match rdBr o c i with
    | .ok q j => g_TownReader_read_bridge a [.ptr r, .int c] (rs a o r S i) = .ok (qd q) (rs a o r S j) ∧ j ≤ o.length
    | .bad e => ∃ j, g_TownReader_read_bridge a [.ptr r, .int c] (rs a o r S i) = .exc (exD a e) (rs a o r S j) := by
  unfold rdBr
  have r1 := m_read (a := a) hr hl (z := [.d (.ptr r), .d (.int c), .u, .u, .u]) hi rfl (cl := cK (.int 0)) (ch := c2 oSub (cVar 1) (cK (.int 1))) (lo := 0) (hi' := c - 1) (by simp) (by simp [oSub])
  cases e1 : rdB o 0 (c - 1) i with
  | bad e =>
    rw [e1] at r1
    refine ⟨i, run_exc (z' := [.d (.ptr r), .d (.int c), .u, .u, .u]) ?_⟩
    show c_TownReader_read_bridge a [.d (.ptr r), .d (.int c), .u, .u, .u] (rs a o r S i) = _
    unfold c_TownReader_read_bridge
    rw [seq_exc (show q_TownReader_read_bridge_1 a _ _ = .exc (exD a e) [.d (.ptr r), .d (.int c), .u, .u, .u] (rs a o r S i) by unfold q_TownReader_read_bridge_1; rw [ev_set, r1, ev_doX])]
  | ok one i1 =>
    rw [e1] at r1
    obtain ⟨_, _, j1, l1⟩ := rdB_ok e1
    have p1 : q_TownReader_read_bridge_1 a [.d (.ptr r), .d (.int c), .u, .u, .u] (rs a o r S i) = .nx [.d (.ptr r), .d (.int c), .d (.int one), .u, .u] (rs a o r S i1) := by
      unfold q_TownReader_read_bridge_1; rw [ev_set, r1, ev_do]; rfl
    have p2 : q_TownReader_read_bridge_2 a [.d (.ptr r), .d (.int c), .d (.int one), .u, .u] (rs a o r S i1) = .nx [.d (.ptr r), .d (.int c), .d (.int one), .d (.int i1), .u] (rs a o r S i1) := by
      unfold q_TownReader_read_bridge_2; rw [ev_set, f_cur hr rfl, ev_do]; rfl
    have r2 := m_read (a := a) hr hl (z := [.d (.ptr r), .d (.int c), .d (.int one), .d (.int i1), .u]) (i := i1) (by omega) rfl (cl := cK (.int 0)) (ch := c2 oSub (cVar 1) (cK (.int 1))) (lo := 0) (hi' := c - 1) (by simp) (by simp [oSub])
    simp only
    cases e2 : rdB o 0 (c - 1) i1 with
    | bad e =>
      rw [e2] at r2
      refine ⟨i1, run_exc (z' := [.d (.ptr r), .d (.int c), .d (.int one), .d (.int i1), .u]) ?_⟩
      show c_TownReader_read_bridge a [.d (.ptr r), .d (.int c), .u, .u, .u] (rs a o r S i) = _
      unfold c_TownReader_read_bridge
      rw [seq_nx p1, seq_nx p2, seq_exc (show q_TownReader_read_bridge_3 a _ _ = .exc (exD a e) [.d (.ptr r), .d (.int c), .d (.int one), .d (.int i1), .u] (rs a o r S i1) by unfold q_TownReader_read_bridge_3; rw [ev_set, r2, ev_doX])]
    | ok other i2 =>
      rw [e2] at r2
      obtain ⟨_, _, j2, l2⟩ := rdB_ok e2
      have p3 : q_TownReader_read_bridge_3 a [.d (.ptr r), .d (.int c), .d (.int one), .d (.int i1), .u] (rs a o r S i1) = .nx [.d (.ptr r), .d (.int c), .d (.int one), .d (.int i1), .d (.int other)] (rs a o r S i2) := by
        unfold q_TownReader_read_bridge_3; rw [ev_set, r2, ev_do]; rfl
      simp only
      by_cases g : one = other
      · rw [if_pos g]
        refine ⟨i2, run_exc (z' := [.d (.ptr r), .d (.int c), .d (.int one), .d (.int i1), .d (.int other)]) ?_⟩
        show c_TownReader_read_bridge a [.d (.ptr r), .d (.int c), .u, .u, .u] (rs a o r S i) = _
        have mf := m_fail (a := a) (o := o) (S := S) hr (z := [.d (.ptr r), .d (.int c), .d (.int one), .d (.int i1), .d (.int other)]) (i := i2) (e := i1) rfl (ce := cVar 3) (by simp)
        have p4 : q_TownReader_read_bridge_4 a [.d (.ptr r), .d (.int c), .d (.int one), .d (.int i1), .d (.int other)] (rs a o r S i2) = .exc (exD a i1) [.d (.ptr r), .d (.int c), .d (.int one), .d (.int i1), .d (.int other)] (rs a o r S i2) := by
          unfold q_TownReader_read_bridge_4 q_TownReader_read_bridge_5
          rw [ev_sif, show tB (c2 (oEq false) (cVar 2) (cVar 4)) [.d (.ptr r), .d (.int c), .d (.int one), .d (.int i1), .d (.int other)] (rs a o r S i2) = .ok true (rs a o r S i2) by simp [g], ev_do, if_pos rfl, mf]
        unfold c_TownReader_read_bridge
        rw [seq_nx p1, seq_nx p2, seq_nx p3, seq_exc p4]
      · rw [if_neg g]
        have p4 : q_TownReader_read_bridge_4 a [.d (.ptr r), .d (.int c), .d (.int one), .d (.int i1), .d (.int other)] (rs a o r S i2) = .nx [.d (.ptr r), .d (.int c), .d (.int one), .d (.int i1), .d (.int other)] (rs a o r S i2) := by
          simp [q_TownReader_read_bridge_4, g]
        have r3 := m_read (a := a) hr hl (z := [.d (.ptr r), .d (.int c), .d (.int one), .d (.int i1), .d (.int other)]) (i := i2) (by omega) rfl (cl := cK (.int 1)) (ch := cK (.int 99)) (lo := 1) (hi' := 99) (by simp) (by simp)
        have pre : ∀ {o2 : O}, q_TownReader_read_bridge_6 a [.d (.ptr r), .d (.int c), .d (.int one), .d (.int i1), .d (.int other)] (rs a o r S i2) = o2 → c_TownReader_read_bridge a [.d (.ptr r), .d (.int c), .u, .u, .u] (rs a o r S i) = o2 := fun {o2} h => by
          unfold c_TownReader_read_bridge
          rw [seq_nx p1, seq_nx p2, seq_nx p3, seq_nx p4, h]
        cases e3 : rdB o 1 99 i2 with
        | bad e =>
          rw [e3] at r3
          refine ⟨i2, run_exc (z' := [.d (.ptr r), .d (.int c), .d (.int one), .d (.int i1), .d (.int other)]) (pre ?_)⟩
          unfold q_TownReader_read_bridge_6
          rw [ev_ret, ev_tup]
          simp only [ev_cons, ev_var, List.getElem?_cons_succ, List.getElem?_cons_zero, ev_slot, R.bind, r3, ev_doX]
        | ok len i3 =>
          rw [e3] at r3
          obtain ⟨_, _, j3, l3⟩ := rdB_ok e3
          simp only at r3 ⊢
          have lf := life_ok (a := a) hr hl i3 (by omega)
          have at3 := rs_at (a := a) (o := o) hr i3
          have cl3 : classOf (rs a o r S i3) (.ptr r) = some (a.C_TownReader, [("octets" : Str), ("cursor" : Str)]) := by simp [classOf, at3]
          have nf : ("read_life" : Str) ∉ [("octets" : Str), ("cursor" : Str)] := by decide +kernel
          have ml : cMeth a.C_TownReader ("read_life" : Str) (g_TownReader_read_life a) (cVar 0) aNil [.d (.ptr r), .d (.int c), .d (.int one), .d (.int i1), .d (.int other)] (rs a o r S i3) = g_TownReader_read_life a [.ptr r] (rs a o r S i3) := by
            rw [ev_meth]
            simp only [ev_var, List.getElem?_cons_zero, ev_slot, R.bind, cl3]
            rw [if_pos ⟨trivial, nf⟩]
            simp only [ev_nil, R.bind]
          cases e4 : rdLife o i3 with
          | bad e =>
            rw [e4] at lf
            obtain ⟨j, lf⟩ := lf
            refine ⟨j, run_exc (z' := [.d (.ptr r), .d (.int c), .d (.int one), .d (.int i1), .d (.int other)]) (pre ?_)⟩
            unfold q_TownReader_read_bridge_6
            rw [ev_ret, ev_tup]
            simp only [ev_cons, ev_var, List.getElem?_cons_succ, List.getElem?_cons_zero, ev_slot, R.bind, r3, ml, lf, ev_doX]
          | ok life i4 =>
            rw [e4] at lf
            obtain ⟨lf, j4⟩ := lf
            refine ⟨run_rt (pre ?_), j4⟩
            unfold q_TownReader_read_bridge_6
            rw [ev_ret, ev_tup]
            simp only [ev_cons, ev_var, List.getElem?_cons_succ, List.getElem?_cons_zero, ev_slot, R.bind, r3, ml, lf, ev_nil]
            simp [qd]
end
end Law
set_option Elab.async false
set_option linter.all false
set_option maxRecDepth 100000
set_option maxHeartbeats 4000000
namespace Law
open PySem CL
variable [TheK]
theorem rdLife_ok {o : List Int} {i j : Nat} {t : Int} (hb : areB o) (h : rdLife o i = .ok t j) : 0 ≤ t ∧ t ≤ 1000000000000000000 := by
  have go : ∀ (f i : Nat) (t w t' : Int) (j : Nat), 0 ≤ t → 0 ≤ w → lifeGo o f i t w = .ok t' j → 0 ≤ t' := by
    intro f
    induction f with
    | zero => intro i t w t' j _ _ h; cases h
    | succ f ih =>
      intro i t w t' j ht hw h
      unfold lifeGo at h
      cases e : rdB o 0 255 i with
      | bad e2 => rw [e] at h; cases h
      | ok v i' =>
        rw [e] at h
        have hm := Int.emod_nonneg v (show (128 : Int) ≠ 0 by decide)
        have hp : 0 ≤ v % 128 * w := Int.mul_nonneg hm hw
        simp only at h
        split at h
        · cases h
        · split at h
          · exact ih _ _ _ _ _ (by omega) (by omega) h
          · cases h; omega
  unfold rdLife at h
  cases e : lifeGo o (o.length + 1) i 0 1 with
  | bad e2 => rw [e] at h; cases h
  | ok t2 i2 =>
    rw [e] at h
    simp only at h
    split at h
    · cases h
    · cases h
      exact ⟨go _ _ _ _ _ _ (by decide) (by decide) e, by omega⟩
theorem rdBr_ok {o : List Int} {i j : Nat} {c : Int} {q : Quad} (hb : areB o) (h : rdBr o c i = .ok q j) : isL c q = true := by
  unfold rdBr at h
  cases e1 : rdB o 0 (c - 1) i with
  | bad e => rw [e1] at h; cases h
  | ok one i1 =>
    rw [e1] at h
    simp only at h
    cases e2 : rdB o 0 (c - 1) i1 with
    | bad e => rw [e2] at h; cases h
    | ok other i2 =>
      rw [e2] at h
      simp only at h
      split at h
      · cases h
      · rename_i g
        cases e3 : rdB o 1 99 i2 with
        | bad e => rw [e3] at h; cases h
        | ok len i3 =>
          rw [e3] at h
          simp only at h
          cases e4 : rdLife o i3 with
          | bad e => rw [e4] at h; cases h
          | ok life i4 =>
            rw [e4] at h
            cases h
            obtain ⟨_, b1, _, _⟩ := rdB_ok e1
            obtain ⟨_, b2, _, _⟩ := rdB_ok e2
            obtain ⟨_, b3, _, _⟩ := rdB_ok e3
            have b4 := rdLife_ok hb e4
            rw [isL_iff]
            exact ⟨⟨by omega, by omega, g⟩, b3, b4⟩
theorem rdBrs_ok {o : List Int} {c : Int} (hb : areB o) : ∀ {n i j : Nat} {qs : List Quad}, rdBrs o c n i = .ok qs j → qs.length = n ∧ ∀ q ∈ qs, isL c q = true
  | 0, i, j, qs, h => by cases h; exact ⟨rfl, fun _ h => by cases h⟩
  | n + 1, i, j, qs, h => by
    unfold rdBrs at h
    cases e1 : rdBr o c i with
    | bad e => rw [e1] at h; cases h
    | ok q i1 =>
      rw [e1] at h
      simp only at h
      cases e2 : rdBrs o c n i1 with
      | bad e => rw [e2] at h; cases h
      | ok qs2 i2 =>
        rw [e2] at h
        cases h
        obtain ⟨h1, h2⟩ := rdBrs_ok hb e2
        refine ⟨by simp [h1], fun p hp => ?_⟩
        rcases List.mem_cons.mp hp with rfl | hp
        · exact rdBr_ok hb e1
        · exact h2 p hp
section
variable {a : Ad} {o : List Int} {r : Nat} {S : Store} (hr : r < S.length) (hl : o.length ≤ 310) (hb : areB o)
include hr hl
theorem brs_lc (c : Int) (z : Sl) (hz0 : z[0]? = some (.d (.ptr r))) (hz1 : z[1]? = some (.d (.int c))) : ∀ (ks : List D) (i : Nat) (acc : List Quad), i ≤ o.length → acc.length + ks.length ≤ 1000 →
    match rdBrs o c ks.length i with
    | .ok qs j => lcGoX (gN 5) tYesC (cMeth a.C_TownReader ("read_bridge" : Str) (g_TownReader_read_bridge a) (cVar 0) (aCons (cVar 1) aNil)) z ks (rs a o r S i) (acc.map qd) = .ok ((acc ++ qs).map qd) (rs a o r S j) ∧ j ≤ o.length
    | .bad e => ∃ j, lcGoX (gN 5) tYesC (cMeth a.C_TownReader ("read_bridge" : Str) (g_TownReader_read_bridge a) (cVar 0) (aCons (cVar 1) aNil)) z ks (rs a o r S i) (acc.map qd) = .exc (exD a e) (rs a o r S j)
  | [], i, acc, hi, _ => ⟨by simp [lcGoX], hi⟩
  | k :: ks, i, acc, hi, hn => by
    simp only [List.length_cons] at hn
    have at_ := rs_at (a := a) (o := o) hr i
    have cl : classOf (rs a o r S i) (.ptr r) = some (a.C_TownReader, [("octets" : Str), ("cursor" : Str)]) := by simp [classOf, at_]
    have nf : ("read_bridge" : Str) ∉ [("octets" : Str), ("cursor" : Str)] := by decide +kernel
    have m : cMeth a.C_TownReader ("read_bridge" : Str) (g_TownReader_read_bridge a) (cVar 0) (aCons (cVar 1) aNil) (z.set 5 (.d k)) (rs a o r S i) = g_TownReader_read_bridge a [.ptr r, .int c] (rs a o r S i) := by
      have h0 : (z.set 5 (.d k))[0]? = some (.d (.ptr r)) := by rw [List.getElem?_set_ne (by decide)]; exact hz0
      have h1 : (z.set 5 (.d k))[1]? = some (.d (.int c)) := by rw [List.getElem?_set_ne (by decide)]; exact hz1
      rw [ev_meth]
      simp only [ev_var, h0, ev_slot, R.bind, cl]
      rw [if_pos ⟨trivial, nf⟩]
      simp only [ev_cons, ev_var, h1, ev_slot, R.bind, ev_nil]
    have b := br_ok (a := a) hr hl c i hi
    show match rdBrs o c (ks.length + 1) i with | .ok qs j => _ | .bad e => _
    unfold rdBrs
    cases e1 : rdBr o c i with
    | bad e =>
      rw [e1] at b
      obtain ⟨j, b⟩ := b
      refine ⟨j, ?_⟩
      unfold lcGoX
      simp only [ev_gN, tYesC, m, b]
    | ok q i1 =>
      rw [e1] at b
      obtain ⟨b, h1⟩ := b
      have ih := brs_lc c z hz0 hz1 ks i1 (acc ++ [q]) h1 (by simp; omega)
      simp only
      have st : lcGoX (gN 5) tYesC (cMeth a.C_TownReader ("read_bridge" : Str) (g_TownReader_read_bridge a) (cVar 0) (aCons (cVar 1) aNil)) z (k :: ks) (rs a o r S i) (acc.map qd) = lcGoX (gN 5) tYesC (cMeth a.C_TownReader ("read_bridge" : Str) (g_TownReader_read_bridge a) (cVar 0) (aCons (cVar 1) aNil)) z ks (rs a o r S i1) ((acc ++ [q]).map qd) := by
        conv => lhs; unfold lcGoX
        simp only [ev_gN, tYesC, m, b]
        rw [if_pos (by simp; omega)]
        simp
      cases e2 : rdBrs o c ks.length i1 with
      | bad e =>
        rw [e2] at ih
        obtain ⟨j, ih⟩ := ih
        exact ⟨j, st.trans ih⟩
      | ok qs j =>
        rw [e2] at ih
        refine ⟨st.trans (ih.1.trans (by simp)), ih.2⟩
theorem each_ok (x1 x2 x3 : SV) : ∀ (vs : List Int) (i : Nat) (x4 x5 : SV), i ≤ o.length →
    match rdEach o vs i with
    | .ok _ j => ∃ y4, loop (gN 4) (q_TownReader_read_town_6 a) (vs.map D.int) [.d (.ptr r), x1, x2, x3, x4, x5] (rs a o r S i) = .nx [.d (.ptr r), x1, x2, x3, y4, x5] (rs a o r S j) ∧ j ≤ o.length
    | .bad e => ∃ z' j, loop (gN 4) (q_TownReader_read_town_6 a) (vs.map D.int) [.d (.ptr r), x1, x2, x3, x4, x5] (rs a o r S i) = .exc (exD a e) z' (rs a o r S j)
  | [], i, x4, x5, hi => ⟨x4, rfl, hi⟩
  | v :: vs, i, x4, x5, hi => by
    have rd := m_read (a := a) hr hl (z := [.d (.ptr r), x1, x2, x3, .d (.int v), x5]) hi rfl (cl := cVar 4) (ch := cVar 4) (lo := v) (hi' := v) (by simp) (by simp)
    unfold rdEach
    cases e1 : rdB o v v i with
    | bad e =>
      rw [e1] at rd
      refine ⟨[.d (.ptr r), x1, x2, x3, .d (.int v), x5], i, ?_⟩
      rw [List.map_cons, loop_exc (z1 := [.d (.ptr r), x1, x2, x3, .d (.int v), x5]) rfl]
      unfold q_TownReader_read_town_6
      rw [ev_expr, rd, ev_doX]
    | ok u i1 =>
      rw [e1] at rd
      obtain ⟨_, _, h1, h2⟩ := rdB_ok e1
      have t : q_TownReader_read_town_6 a [.d (.ptr r), x1, x2, x3, .d (.int v), x5] (rs a o r S i) = .nx [.d (.ptr r), x1, x2, x3, .d (.int v), x5] (rs a o r S i1) := by
        unfold q_TownReader_read_town_6
        rw [ev_expr, rd, ev_do]
      have ih := each_ok x1 x2 x3 vs i1 (.d (.int v)) x5 (by omega)
      simp only
      have st : loop (gN 4) (q_TownReader_read_town_6 a) ((v :: vs).map D.int) [.d (.ptr r), x1, x2, x3, x4, x5] (rs a o r S i) = loop (gN 4) (q_TownReader_read_town_6 a) (vs.map D.int) [.d (.ptr r), x1, x2, x3, .d (.int v), x5] (rs a o r S i1) := by
        rw [List.map_cons, loop_cons (z1 := [.d (.ptr r), x1, x2, x3, .d (.int v), x5]) rfl t]
      cases e2 : rdEach o vs i1 with
      | bad e =>
        rw [e2] at ih
        obtain ⟨z', j, ih⟩ := ih
        exact ⟨z', j, st.trans ih⟩
      | ok _ j =>
        rw [e2] at ih
        obtain ⟨y4, ih, hj⟩ := ih
        exact ⟨y4, st.trans ih, hj⟩
include hb
theorem town_ok : match rdTown o with
    | .ok (c, qs) _ => ∃ j, g_TownReader_read_town a [.ptr r] (rs a o r S 0) = .ok (.ptr S.length) (rs a o r S j ++ [.ins a.C_Town [("size" : Str), ("links" : Str)] [.int c, tq qs]])
    | .bad e => ∃ j, g_TownReader_read_town a [.ptr r] (rs a o r S 0) = .exc (exD a e) (rs a o r S j) := by
  have r1 := m_read (a := a) hr hl (z := [.d (.ptr r), .u, .u, .u, .u, .u]) (i := 0) (by omega) rfl (cl := cK (.int 84)) (ch := cK (.int 84)) (lo := 84) (hi' := 84) (by simp) (by simp)
  unfold rdTown
  cases e1 : rdB o 84 84 0 with
  | bad e =>
    rw [e1] at r1
    refine ⟨0, run_exc (z' := [.d (.ptr r), .u, .u, .u, .u, .u]) ?_⟩
    show c_TownReader_read_town a [.d (.ptr r), .u, .u, .u, .u, .u] (rs a o r S 0) = _
    unfold c_TownReader_read_town
    rw [seq_exc (show q_TownReader_read_town_1 a [.d (.ptr r), .u, .u, .u, .u, .u] (rs a o r S 0) = .exc (exD a e) [.d (.ptr r), .u, .u, .u, .u, .u] (rs a o r S 0) by unfold q_TownReader_read_town_1; rw [ev_expr, r1, ev_doX])]
  | ok u1 i1 =>
    rw [e1] at r1
    obtain ⟨_, _, j1, l1⟩ := rdB_ok e1
    have p1 : q_TownReader_read_town_1 a [.d (.ptr r), .u, .u, .u, .u, .u] (rs a o r S 0) = .nx [.d (.ptr r), .u, .u, .u, .u, .u] (rs a o r S i1) := by
      unfold q_TownReader_read_town_1; rw [ev_expr, r1, ev_do]
    have r2 := m_read (a := a) hr hl (z := [.d (.ptr r), .u, .u, .u, .u, .u]) (i := i1) (by omega) rfl (cl := cK (.int 1)) (ch := cVal a.C_Town (.int 12) (cK (.ref a.C_Town))) (lo := 1) (hi' := 12) (by simp) (by simp)
    simp only
    cases e2 : rdB o 1 12 i1 with
    | bad e =>
      rw [e2] at r2
      refine ⟨i1, run_exc (z' := [.d (.ptr r), .u, .u, .u, .u, .u]) ?_⟩
      show c_TownReader_read_town a [.d (.ptr r), .u, .u, .u, .u, .u] (rs a o r S 0) = _
      unfold c_TownReader_read_town
      rw [seq_nx p1, seq_exc (show q_TownReader_read_town_2 a [.d (.ptr r), .u, .u, .u, .u, .u] (rs a o r S i1) = .exc (exD a e) [.d (.ptr r), .u, .u, .u, .u, .u] (rs a o r S i1) by unfold q_TownReader_read_town_2; rw [ev_set, r2, ev_doX])]
    | ok c i2 =>
      rw [e2] at r2
      obtain ⟨_, c12, j2, l2⟩ := rdB_ok e2
      have p2 : q_TownReader_read_town_2 a [.d (.ptr r), .u, .u, .u, .u, .u] (rs a o r S i1) = .nx [.d (.ptr r), .d (.int c), .u, .u, .u, .u] (rs a o r S i2) := by
        unfold q_TownReader_read_town_2; rw [ev_set, r2, ev_do]; rfl
      have r3 := m_read (a := a) hr hl (z := [.d (.ptr r), .d (.int c), .u, .u, .u, .u]) (i := i2) (by omega) rfl (cl := cK (.int 0)) (ch := cVal a.C_Town (.int 24) (cK (.ref a.C_Town))) (lo := 0) (hi' := 24) (by simp) (by simp)
      simp only
      cases e3 : rdB o 0 24 i2 with
      | bad e =>
        rw [e3] at r3
        refine ⟨i2, run_exc (z' := [.d (.ptr r), .d (.int c), .u, .u, .u, .u]) ?_⟩
        show c_TownReader_read_town a [.d (.ptr r), .u, .u, .u, .u, .u] (rs a o r S 0) = _
        unfold c_TownReader_read_town
        rw [seq_nx p1, seq_nx p2, seq_exc (show q_TownReader_read_town_3 a [.d (.ptr r), .d (.int c), .u, .u, .u, .u] (rs a o r S i2) = .exc (exD a e) [.d (.ptr r), .d (.int c), .u, .u, .u, .u] (rs a o r S i2) by unfold q_TownReader_read_town_3; rw [ev_set, r3, ev_doX])]
      | ok n i3 =>
        rw [e3] at r3
        obtain ⟨_, n24, j3, l3⟩ := rdB_ok e3
        obtain ⟨m, rfl⟩ : ∃ m : Nat, n = m := ⟨n.toNat, by omega⟩
        have p3 : q_TownReader_read_town_3 a [.d (.ptr r), .d (.int c), .u, .u, .u, .u] (rs a o r S i2) = .nx [.d (.ptr r), .d (.int c), .d (.int m), .u, .u, .u] (rs a o r S i3) := by
          unfold q_TownReader_read_town_3; rw [ev_set, r3, ev_do]; rfl
        have it : CL.iRange1 (cVar 2) [.d (.ptr r), .d (.int c), .d (.int m), .u, .u, .u] (rs a o r S i3) = .ok ((List.range' 0 m).map fun (k : Nat) => D.int (k : Int)) (rs a o r S i3) := iRange1_nat (by simp) (by omega)
        have lc := brs_lc (a := a) hr hl c (wipeD [.d (.ptr r), .d (.int c), .d (.int m), .u, .u, .u] [5]) (by simp [wipeD]) (by simp [wipeD]) ((List.range' 0 m).map fun (k : Nat) => D.int (k : Int)) i3 [] (by omega) (by simp; omega)
        simp only [List.length_map, List.length_range', List.map_nil, List.nil_append] at lc
        simp only [Int.toNat_natCast]
        cases e4 : rdBrs o c m i3 with
        | bad e =>
          rw [e4] at lc
          obtain ⟨j, lc⟩ := lc
          refine ⟨j, run_exc (z' := [.d (.ptr r), .d (.int c), .d (.int m), .u, .u, .u]) ?_⟩
          show c_TownReader_read_town a [.d (.ptr r), .u, .u, .u, .u, .u] (rs a o r S 0) = _
          have p4 : q_TownReader_read_town_4 a [.d (.ptr r), .d (.int c), .d (.int m), .u, .u, .u] (rs a o r S i3) = .exc (exD a e) [.d (.ptr r), .d (.int c), .d (.int m), .u, .u, .u] (rs a o r S j) := by
            unfold q_TownReader_read_town_4
            rw [ev_set, ev_app]
            simp only [ev_cons, cLcX, it, lc, R.bind, ev_doX]
          unfold c_TownReader_read_town
          rw [seq_nx p1, seq_nx p2, seq_nx p3, seq_exc p4]
        | ok qs i4 =>
          rw [e4] at lc
          obtain ⟨lc, l4⟩ := lc
          obtain ⟨ql, qL⟩ := rdBrs_ok hb e4
          have p4 : q_TownReader_read_town_4 a [.d (.ptr r), .d (.int c), .d (.int m), .u, .u, .u] (rs a o r S i3) = .nx [.d (.ptr r), .d (.int c), .d (.int m), .d (tq qs), .u, .u] (rs a o r S i4) := by
            unfold q_TownReader_read_town_4
            rw [ev_set, ev_app]
            simp only [ev_cons, cLcX, it, lc, R.bind, ev_nil, bTuple, ev_do]
            rfl
          have fo := f_oct (a := a) (o := o) (S := S) hr (z := [.d (.ptr r), .d (.int c), .d (.int m), .d (tq qs), .u, .u]) (i := i4) rfl
          have fc := f_cur (a := a) (o := o) (S := S) hr (z := [.d (.ptr r), .d (.int c), .d (.int m), .d (tq qs), .u, .u]) (i := i4) rfl
          have cut := cutP (n := i4) l4 fo fc
          have ckk := ck_ok (a := a) (S := rs a o r S i4) (o.take i4)
          have it5 : CL.iSeq (cCall (g_checksum a) (aCons (cCut (cFld a.C_TownReader ("octets" : Str) (cVar 0)) oNone (oSome (cFld a.C_TownReader ("cursor" : Str) (cVar 0)))) aNil)) [.d (.ptr r), .d (.int c), .d (.int m), .d (tq qs), .u, .u] (rs a o r S i4) = .ok ((ck (o.take i4)).map D.int) (rs a o r S i4) := by
            unfold CL.iSeq
            rw [ev_call]
            simp only [ev_cons, cut, R.bind, ev_nil, ckk]
          have ea := each_ok (a := a) (S := S) hr hl (.d (.int c)) (.d (.int m)) (.d (tq qs)) (ck (o.take i4)) i4 .u .u l4
          simp only
          cases e5 : rdEach o (ck (o.take i4)) i4 with
          | bad e =>
            rw [e5] at ea
            obtain ⟨z', j, ea⟩ := ea
            refine ⟨j, run_exc (z' := z') ?_⟩
            show c_TownReader_read_town a [.d (.ptr r), .u, .u, .u, .u, .u] (rs a o r S 0) = _
            have p5 : q_TownReader_read_town_5 a [.d (.ptr r), .d (.int c), .d (.int m), .d (tq qs), .u, .u] (rs a o r S i4) = .exc (exD a e) z' (rs a o r S j) := by
              unfold q_TownReader_read_town_5
              rw [ev_for, it5, ev_do]; exact ea
            unfold c_TownReader_read_town
            rw [seq_nx p1, seq_nx p2, seq_nx p3, seq_nx p4, seq_exc p5]
          | ok u5 i5 =>
            rw [e5] at ea
            obtain ⟨y4, ea, l5⟩ := ea
            have p5 : q_TownReader_read_town_5 a [.d (.ptr r), .d (.int c), .d (.int m), .d (tq qs), .u, .u] (rs a o r S i4) = .nx [.d (.ptr r), .d (.int c), .d (.int m), .d (tq qs), y4, .u] (rs a o r S i5) := by
              unfold q_TownReader_read_town_5
              rw [ev_for, it5, ev_do]; exact ea
            have fo := f_oct (a := a) (o := o) (S := S) hr (z := [.d (.ptr r), .d (.int c), .d (.int m), .d (tq qs), y4, .u]) (i := i5) rfl
            have fc := f_cur (a := a) (o := o) (S := S) hr (z := [.d (.ptr r), .d (.int c), .d (.int m), .d (tq qs), y4, .u]) (i := i5) rfl
            have t7 : tB (c2 oLt (cFld a.C_TownReader ("cursor" : Str) (cVar 0)) (cApp bLen (aCons (cFld a.C_TownReader ("octets" : Str) (cVar 0)) aNil))) [.d (.ptr r), .d (.int c), .d (.int m), .d (tq qs), y4, .u] (rs a o r S i5) = .ok (decide (i5 < o.length)) (rs a o r S i5) := by
              rw [ev_tB, ev_c2, fc]
              simp only [R.bind, ev_app, ev_cons, fo, ev_nil, bLen, itemsOf, oLt, oCmp, List.length_map]
              simp
            simp only
            by_cases g : i5 < o.length
            · rw [if_pos g]
              refine ⟨i5, run_exc (z' := [.d (.ptr r), .d (.int c), .d (.int m), .d (tq qs), y4, .u]) ?_⟩
              show c_TownReader_read_town a [.d (.ptr r), .u, .u, .u, .u, .u] (rs a o r S 0) = _
              have mf := m_fail (a := a) (o := o) (S := S) hr (z := [.d (.ptr r), .d (.int c), .d (.int m), .d (tq qs), y4, .u]) (i := i5) (e := i5) rfl fc
              have p7 : q_TownReader_read_town_7 a [.d (.ptr r), .d (.int c), .d (.int m), .d (tq qs), y4, .u] (rs a o r S i5) = .exc (exD a i5) [.d (.ptr r), .d (.int c), .d (.int m), .d (tq qs), y4, .u] (rs a o r S i5) := by
                unfold q_TownReader_read_town_7 q_TownReader_read_town_8
                rw [ev_sif, t7, decide_eq_true g, ev_do, if_pos rfl, mf]
              unfold c_TownReader_read_town
              rw [seq_nx p1, seq_nx p2, seq_nx p3, seq_nx p4, seq_nx p5, seq_exc p7]
            · rw [if_neg g]
              refine ⟨i5, run_rt ?_⟩
              show c_TownReader_read_town a [.d (.ptr r), .u, .u, .u, .u, .u] (rs a o r S 0) = _
              have p7 : q_TownReader_read_town_7 a [.d (.ptr r), .d (.int c), .d (.int m), .d (tq qs), y4, .u] (rs a o r S i5) = .nx [.d (.ptr r), .d (.int c), .d (.int m), .d (tq qs), y4, .u] (rs a o r S i5) := by
                unfold q_TownReader_read_town_7
                rw [ev_sif, t7, decide_eq_false g, ev_do]
                rfl
              have hL : (rs a o r S i5).length = S.length := by simp
              have ini := init_ok a c qs (rs a o r S i5 ++ [.ins a.C_Town [] []]) S.length (by rw [← hL]; simp)
              have bn : badOf c qs = none := by
                unfold badOf
                rw [if_pos c12, badFrom_none (by omega) qL]
                rfl
              rw [bn] at ini
              simp only at ini
              have p9 : q_TownReader_read_town_9 a [.d (.ptr r), .d (.int c), .d (.int m), .d (tq qs), y4, .u] (rs a o r S i5) = .rt (.ptr S.length) (rs a o r S i5 ++ [.ins a.C_Town [("size" : Str), ("links" : Str)] [.int c, tq qs]]) := by
                unfold q_TownReader_read_town_9
                rw [ev_ret, ev_make]
                simp only [ev_cons, ev_var, List.getElem?_cons_succ, List.getElem?_cons_zero, ev_slot, R.bind, ev_nil, hL, ini, ev_do]
                rw [← hL, List.set_append_right _ _ (Nat.le_refl _)]
                simp
              unfold c_TownReader_read_town
              rw [seq_nx p1, seq_nx p2, seq_nx p3, seq_nx p4, seq_nx p5, seq_nx p7, p9]
end
section
variable {a : Ad} {o : List Int} {S : Store}
theorem dec_ok (hl : o.length ≤ 310) (hb : areB o) : match rdTown o with
    | .ok (c, qs) _ => ∃ S' j, g_decode_town a [.byt (byteArr o)] S = .ok (.ptr j) S' ∧ Ext S S' ∧ TownAt a c qs j S'
    | .bad e => ∃ S', g_decode_town a [.byt (byteArr o)] S = .exc (exD a e) S' ∧ Ext S S' := by
  have hr : S.length < (S ++ [MO.lst []]).length := by simp
  have tk := town_ok (a := a) (o := o) (S := S ++ [MO.lst []]) hr hl hb
  have rsE : ∀ i, rs a o S.length (S ++ [MO.lst []]) i = S ++ [rdO a o i] := fun i => by
    rw [rs, List.set_append_right _ _ (Nat.le_refl _)]; simp
  simp only [rsE] at tk
  have ini : g_TownReader__init a [.ptr S.length, .byt (byteArr o)] (S ++ [.ins a.C_TownReader [] []]) = .ok .non (S ++ [rdO a o 0]) := by
    refine run_nx (z' := [.d (.ptr S.length), .d (.byt (byteArr o))]) ?_
    show c_TownReader__init a [.d (.ptr S.length), .d (.byt (byteArr o))] _ = _
    have hz : (byteArr o).size ≤ 16777216 := by rw [byteArr_size2]; omega
    have p1 : q_TownReader__init_1 a [.d (.ptr S.length), .d (.byt (byteArr o))] (S ++ [.ins a.C_TownReader [] []]) = .nx [.d (.ptr S.length), .d (.byt (byteArr o))] (S ++ [.ins a.C_TownReader [("octets" : Str)] [li o]]) := by
      unfold q_TownReader__init_1
      rw [ev_field, ev_listB]
      simp only [ev_var, List.getElem?_cons_succ, List.getElem?_cons_zero, ev_slot, R.bind]
      rw [if_pos hz, bi_byteArr hb]
      simp [putN]
    have p2 : q_TownReader__init_2 a [.d (.ptr S.length), .d (.byt (byteArr o))] (S ++ [.ins a.C_TownReader [("octets" : Str)] [li o]]) = .nx [.d (.ptr S.length), .d (.byt (byteArr o))] (S ++ [rdO a o 0]) := by
      unfold q_TownReader__init_2
      rw [ev_field]
      simp [putN, noc]
    unfold c_TownReader__init
    rw [seq_nx p1, p2]
  have mk : cMake a.C_TownReader (g_TownReader__init a) (aCons (cVar 0) aNil) [.d (.byt (byteArr o))] S = .ok (.ptr S.length) (S ++ [rdO a o 0]) := by
    rw [ev_make]
    simp only [ev_cons, ev_var, List.getElem?_cons_zero, ev_slot, R.bind, ev_nil, ini]
  have at0 : (S ++ [rdO a o 0])[S.length]? = some (rdO a o 0) := by simp
  have cl : classOf (S ++ [rdO a o 0]) (.ptr S.length) = some (a.C_TownReader, [("octets" : Str), ("cursor" : Str)]) := by simp [classOf]
  have nf : ("read_town" : Str) ∉ [("octets" : Str), ("cursor" : Str)] := by decide +kernel
  have m : cMeth a.C_TownReader ("read_town" : Str) (g_TownReader_read_town a) (cMake a.C_TownReader (g_TownReader__init a) (aCons (cVar 0) aNil)) aNil [.d (.byt (byteArr o))] S = g_TownReader_read_town a [.ptr S.length] (S ++ [rdO a o 0]) := by
    rw [ev_meth, mk]
    simp only [R.bind, cl]
    rw [if_pos ⟨trivial, nf⟩]
    simp only [ev_nil, R.bind]
  cases e : rdTown o with
  | bad e2 =>
    rw [e] at tk
    obtain ⟨j, tk⟩ := tk
    refine ⟨S ++ [rdO a o j], run_exc (z' := [.d (.byt (byteArr o))]) ?_, Ext.one _ _⟩
    show c_decode_town a [.d (.byt (byteArr o))] S = _
    unfold c_decode_town q_decode_town_1
    rw [ev_ret, m, tk, ev_doX]
  | ok p i =>
    obtain ⟨c, qs⟩ := p
    rw [e] at tk
    obtain ⟨j, tk⟩ := tk
    refine ⟨S ++ [rdO a o j] ++ [.ins a.C_Town [("size" : Str), ("links" : Str)] [.int c, tq qs]], (S ++ [MO.lst []]).length, run_rt ?_, (Ext.one _ _).trans (Ext.one _ _), by unfold TownAt; simp⟩
    show c_decode_town a [.d (.byt (byteArr o))] S = _
    unfold c_decode_town q_decode_town_1
    rw [ev_ret, m, tk, ev_do]
end
end Law
set_option Elab.async false
set_option linter.all false
set_option maxRecDepth 100000
set_option maxHeartbeats 4000000
namespace Law
open PySem CL
variable [TheK]
abbrev kO : Key := .inr ("octets" : Str)
abbrev kA : Key := .inr ("at" : Str)
abbrev kB : Key := .inr ("bad" : Str)
def bD : Option Int → D
  | none => .non
  | some e => .int e
abbrev wD (o : List Int) (i : Nat) (b : Option Int) : MO := .dct [kO, kA, kB] [li o, .int i, bD b]
abbrev ws (o : List Int) (w : Nat) (S : Store) (i : Nat) (b : Option Int) : Store := S.set w (wD o i b)
theorem n_oa : ¬ (kO = kA) := by decide +kernel
theorem n_ob : ¬ (kO = kB) := by decide +kernel
theorem n_ab : ¬ (kA = kB) := by decide +kernel
theorem n_ba : ¬ (kB = kA) := by decide +kernel
section
variable {a : Ad} {o : List Int} {w : Nat} {S : Store} (hw : w < S.length)
include hw
theorem ws_at (i : Nat) (b : Option Int) : (ws o w S i b)[w]? = some (wD o i b) := List.getElem?_set_self hw
theorem e_oct {z : Sl} (hz : z[0]? = some (.d (.ptr w))) (i : Nat) (b : Option Int) : c2 oDGet (cVar 0) (cK (.str ("octets" : Str))) z (ws o w S i b) = .ok (li o) (ws o w S i b) := by
  simp only [ev_c2, ev_var, hz, ev_slot, R.bind, ev_k, oDGet, dctAt, ws_at hw, dKey, dGet, if_true]
theorem e_at {z : Sl} (hz : z[0]? = some (.d (.ptr w))) (i : Nat) (b : Option Int) : c2 oDGet (cVar 0) (cK (.str ("at" : Str))) z (ws o w S i b) = .ok (.int i) (ws o w S i b) := by
  simp only [ev_c2, ev_var, hz, ev_slot, R.bind, ev_k, oDGet, dctAt, ws_at hw, dKey, dGet, if_neg n_oa, if_true]
theorem e_bad {z : Sl} (hz : z[0]? = some (.d (.ptr w))) (i : Nat) (b : Option Int) : c2 oDGet (cVar 0) (cK (.str ("bad" : Str))) z (ws o w S i b) = .ok (bD b) (ws o w S i b) := by
  simp only [ev_c2, ev_var, hz, ev_slot, R.bind, ev_k, oDGet, dctAt, ws_at hw, dKey, dGet, if_neg n_ob, if_neg n_ab, if_true]
theorem p_at {z : Sl} (hz : z[0]? = some (.d (.ptr w))) {i j : Nat} {b : Option Int} {ce : CE} (h : ce z (ws o w S i b) = .ok (.int j) (ws o w S i b)) : sDPut (cVar 0) (cK (.str ("at" : Str))) ce z (ws o w S i b) = .nx z (ws o w S j b) := by
  simp only [ev_dput, h, ev_do, ev_var, hz, ev_slot, ev_k, dKey, ws_at hw]
  rw [if_pos (by simp)]
  have hm : kA ∈ ([kO, kA, kB] : List Key) := by simp
  simp only [dPut, if_pos hm, dSet, if_neg n_oa, if_neg n_ba, if_true, ws, List.set_set]
theorem p_bad {z : Sl} (hz : z[0]? = some (.d (.ptr w))) {i : Nat} {b : Option Int} {e : Int} {ce : CE} (h : ce z (ws o w S i b) = .ok (.int e) (ws o w S i b)) : sDPut (cVar 0) (cK (.str ("bad" : Str))) ce z (ws o w S i b) = .nx z (ws o w S i (some e)) := by
  simp only [ev_dput, h, ev_do, ev_var, hz, ev_slot, ev_k, dKey, ws_at hw]
  rw [if_pos (by simp)]
  have hm : kB ∈ ([kO, kA, kB] : List Key) := by simp
  simp only [dPut, if_pos hm, dSet, if_neg n_ob, if_neg n_ab, if_true, ws, List.set_set]
  rfl
theorem get_f (lo hi : Int) (i : Nat) (e : Int) : g_law_get a [.ptr w, .int lo, .int hi] (ws o w S i (some e)) = .ok (.int lo) (ws o w S i (some e)) := by
  refine run_rt ?_
  show c_law_get a [.d (.ptr w), .d (.int lo), .d (.int hi)] (ws o w S i (some e)) = _
  have p1 : q_law_get_1 a [.d (.ptr w), .d (.int lo), .d (.int hi)] (ws o w S i (some e)) = .rt (.int lo) (ws o w S i (some e)) := by
    unfold q_law_get_1
    rw [ev_sif, ev_tB, ev_c2, e_bad hw rfl]
    simp [xNotN, oNotN, isNon, bD]
  unfold c_law_get
  rw [seq_rt p1]
theorem get_n (lo hi : Int) (i : Nat) (hi' : i ≤ o.length) : g_law_get a [.ptr w, .int lo, .int hi] (ws o w S i none) = match rdB o lo hi i with
    | .ok v j => .ok (.int v) (ws o w S j none)
    | .bad e => .ok (.int lo) (ws o w S i (some e)) := by
  have p1 : q_law_get_1 a [.d (.ptr w), .d (.int lo), .d (.int hi)] (ws o w S i none) = .nx [.d (.ptr w), .d (.int lo), .d (.int hi)] (ws o w S i none) := by
    unfold q_law_get_1
    rw [ev_sif, ev_tB, ev_c2, e_bad hw rfl]
    simp [xNotN, oNotN, isNon, bD]
  have ea := e_at (o := o) (S := S) hw (z := [.d (.ptr w), .d (.int lo), .d (.int hi)]) rfl i none
  have eo := e_oct (o := o) (S := S) hw (z := [.d (.ptr w), .d (.int lo), .d (.int hi)]) rfl i none
  have t1 : tB (c2 (oEq false) (c2 oDGet (cVar 0) (cK (.str ("at" : Str)))) (cApp bLen (aCons (c2 oDGet (cVar 0) (cK (.str ("octets" : Str)))) aNil))) [.d (.ptr w), .d (.int lo), .d (.int hi)] (ws o w S i none) = .ok (decide (i = o.length)) (ws o w S i none) := by
    rw [ev_tB, ev_c2, ea]
    simp only [R.bind, ev_app, ev_cons, eo, ev_nil, bLen, itemsOf, oEq_int, List.length_map]
    simp
    constructor <;> intro h <;> omega
  have fail : sSeq (q_law_get_4 a) (sRet (cVar 1)) [.d (.ptr w), .d (.int lo), .d (.int hi)] (ws o w S i none) = .rt (.int lo) (ws o w S i (some (i : Int))) := by
    have := p_bad (o := o) (S := S) hw (z := [.d (.ptr w), .d (.int lo), .d (.int hi)]) rfl ea
    rw [seq_nx (show q_law_get_4 a [.d (.ptr w), .d (.int lo), .d (.int hi)] (ws o w S i none) = .nx [.d (.ptr w), .d (.int lo), .d (.int hi)] (ws o w S i (some (i : Int))) from this)]
    simp
  rcases rdB_cases o lo hi i with ⟨v, hv, hb, e⟩ | ⟨e, hn⟩
  · rw [e]
    have hlt := (List.getElem?_eq_some_iff.mp hv).1
    have hat : L2.atI (o.map D.int) (i : Int) = some (.int v) := L2.atI_nat (by simp [hv])
    have t2 : tB (cChain oLe oLe (cVar 1) (c2 oIx (c2 oDGet (cVar 0) (cK (.str ("octets" : Str)))) (c2 oDGet (cVar 0) (cK (.str ("at" : Str))))) (cVar 2)) [.d (.ptr w), .d (.int lo), .d (.int hi)] (ws o w S i none) = .ok true (ws o w S i none) := by
      have ix : c2 oIx (c2 oDGet (cVar 0) (cK (.str ("octets" : Str)))) (c2 oDGet (cVar 0) (cK (.str ("at" : Str)))) [.d (.ptr w), .d (.int lo), .d (.int hi)] (ws o w S i none) = .ok (.int v) (ws o w S i none) := by
        rw [ev_c2, eo]
        simp only [R.bind, ea, oIx, itemsOf, hat]
      rw [ev_tB, ev_chain]
      simp only [ev_var, List.getElem?_cons_succ, List.getElem?_cons_zero, ev_slot, R.bind, ix, oLe, oCmp, decide_eq_true hb.1, decide_eq_true hb.2, if_true]
    have p3 : q_law_get_3 a [.d (.ptr w), .d (.int lo), .d (.int hi)] (ws o w S i none) = .nx [.d (.ptr w), .d (.int lo), .d (.int hi)] (ws o w S i none) := by
      have hne : ¬ (i = o.length) := by omega
      unfold q_law_get_3
      rw [ev_sif, ev_tOr, t1, decide_eq_false hne]
      simp only [R.bind, Bool.false_eq_true, if_false, ev_tNot, t2, Bool.not_true, ev_do, ev_sNil]
    have p6 : q_law_get_6 a [.d (.ptr w), .d (.int lo), .d (.int hi)] (ws o w S i none) = .nx [.d (.ptr w), .d (.int lo), .d (.int hi)] (ws o w S (i + 1) none) := by
      refine p_at hw rfl ?_
      rw [ev_c2, ea]
      simp [oAdd]
    have ea2 := e_at (o := o) (S := S) hw (z := [.d (.ptr w), .d (.int lo), .d (.int hi)]) rfl (i + 1) none
    have eo2 := e_oct (o := o) (S := S) hw (z := [.d (.ptr w), .d (.int lo), .d (.int hi)]) rfl (i + 1) none
    refine run_rt ?_
    show c_law_get a [.d (.ptr w), .d (.int lo), .d (.int hi)] (ws o w S i none) = _
    have hat2 : L2.atI (o.map D.int) (((i + 1 : Nat) : Int) - 1) = some (.int v) := by rw [show ((i + 1 : Nat) : Int) - 1 = i by omega]; exact hat
    have p7 : q_law_get_7 a [.d (.ptr w), .d (.int lo), .d (.int hi)] (ws o w S (i + 1) none) = .rt (.int v) (ws o w S (i + 1) none) := by
      have s1 : c2 oSub (c2 oDGet (cVar 0) (cK (.str ("at" : Str)))) (cK (.int 1)) [.d (.ptr w), .d (.int lo), .d (.int hi)] (ws o w S (i + 1) none) = .ok (.int (((i + 1 : Nat) : Int) - 1)) (ws o w S (i + 1) none) := by
        rw [ev_c2, ea2]; rfl
      unfold q_law_get_7
      rw [ev_ret, ev_c2, eo2]
      simp only [R.bind, s1, oIx, itemsOf, hat2, ev_do]
    unfold c_law_get
    rw [seq_nx p1, seq_nx p3, seq_nx p6, p7]
  · rw [e]
    refine run_rt ?_
    show c_law_get a [.d (.ptr w), .d (.int lo), .d (.int hi)] (ws o w S i none) = _
    have p3 : q_law_get_3 a [.d (.ptr w), .d (.int lo), .d (.int hi)] (ws o w S i none) = .rt (.int lo) (ws o w S i (some (i : Int))) := by
      unfold q_law_get_3
      rw [ev_sif, ev_tOr, t1]
      by_cases hne : i = o.length
      · simp only [decide_eq_true hne, R.bind, if_true, ev_do, fail]
      · have hlt : i < o.length := by omega
        have hat : L2.atI (o.map D.int) (i : Int) = some (.int o[i]) := L2.atI_nat (by simp [hlt])
        have hb := hn o[i] (List.getElem?_eq_getElem hlt)
        have t2 : tB (cChain oLe oLe (cVar 1) (c2 oIx (c2 oDGet (cVar 0) (cK (.str ("octets" : Str)))) (c2 oDGet (cVar 0) (cK (.str ("at" : Str))))) (cVar 2)) [.d (.ptr w), .d (.int lo), .d (.int hi)] (ws o w S i none) = .ok false (ws o w S i none) := by
          have ix : c2 oIx (c2 oDGet (cVar 0) (cK (.str ("octets" : Str)))) (c2 oDGet (cVar 0) (cK (.str ("at" : Str)))) [.d (.ptr w), .d (.int lo), .d (.int hi)] (ws o w S i none) = .ok (.int o[i]) (ws o w S i none) := by
            rw [ev_c2, eo]
            simp only [R.bind, ea, oIx, itemsOf, hat]
          rw [ev_tB, ev_chain]
          simp only [ev_var, List.getElem?_cons_succ, List.getElem?_cons_zero, ev_slot, R.bind, ix, oLe, oCmp]
          by_cases h1 : lo ≤ o[i]
          · have h2 : ¬ o[i] ≤ hi := fun z => hb ⟨h1, z⟩
            simp [h1, h2]
          · simp [h1]
        simp only [decide_eq_false hne, R.bind, Bool.false_eq_true, if_false, ev_tNot, t2, Bool.not_false, ev_do, if_true, fail]
    unfold c_law_get
    rw [seq_nx p1, seq_rt p3]
theorem fault_f (wr : Bool) (s : Int) (i : Nat) (e : Int) : g_law_fault a [.ptr w, .bl wr, .int s] (ws o w S i (some e)) = .ok .non (ws o w S i (some e)) := by
  refine run_nx (z' := [.d (.ptr w), .d (.bl wr), .d (.int s)]) ?_
  show c_law_fault a [.d (.ptr w), .d (.bl wr), .d (.int s)] (ws o w S i (some e)) = _
  have t : CL.tAnd (tB (cVar 1)) (tB (c2 xIsN (c2 oDGet (cVar 0) (cK (.str ("bad" : Str)))) (cK .non))) [.d (.ptr w), .d (.bl wr), .d (.int s)] (ws o w S i (some e)) = .ok false (ws o w S i (some e)) := by
    have t2 : tB (c2 xIsN (c2 oDGet (cVar 0) (cK (.str ("bad" : Str)))) (cK .non)) [.d (.ptr w), .d (.bl wr), .d (.int s)] (ws o w S i (some e)) = .ok false (ws o w S i (some e)) := by
      rw [ev_tB, ev_c2, e_bad hw rfl]
      simp [xIsN, oIsN, isNon, bD]
    rw [ev_tAnd, ev_tB]
    simp only [ev_var, List.getElem?_cons_succ, List.getElem?_cons_zero, ev_slot, R.bind, t2]
    cases wr <;> simp
  unfold c_law_fault q_law_fault_1
  rw [ev_sif, t, ev_do]
  rfl
theorem fault_n (wr : Bool) (s : Int) (i : Nat) : g_law_fault a [.ptr w, .bl wr, .int s] (ws o w S i none) = .ok .non (ws o w S i (if wr then some s else none)) := by
  refine run_nx (z' := [.d (.ptr w), .d (.bl wr), .d (.int s)]) ?_
  show c_law_fault a [.d (.ptr w), .d (.bl wr), .d (.int s)] (ws o w S i none) = _
  have t : CL.tAnd (tB (cVar 1)) (tB (c2 xIsN (c2 oDGet (cVar 0) (cK (.str ("bad" : Str)))) (cK .non))) [.d (.ptr w), .d (.bl wr), .d (.int s)] (ws o w S i none) = .ok wr (ws o w S i none) := by
    have t2 : tB (c2 xIsN (c2 oDGet (cVar 0) (cK (.str ("bad" : Str)))) (cK .non)) [.d (.ptr w), .d (.bl wr), .d (.int s)] (ws o w S i none) = .ok true (ws o w S i none) := by
      rw [ev_tB, ev_c2, e_bad hw rfl]
      simp [xIsN, oIsN, isNon, bD]
    rw [ev_tAnd, ev_tB]
    simp only [ev_var, List.getElem?_cons_succ, List.getElem?_cons_zero, ev_slot, R.bind, t2]
    cases wr <;> simp
  unfold c_law_fault q_law_fault_1
  rw [ev_sif, t, ev_do]
  cases wr with
  | false => rfl
  | true =>
    rw [if_pos rfl, if_pos rfl]
    exact p_bad hw rfl (by simp)
end
end Law
set_option Elab.async false
set_option linter.all false
set_option maxRecDepth 100000
set_option maxHeartbeats 4000000
namespace Law
open PySem CL
variable [TheK]
/-- the state: the offset; where it has failed -/
abbrev St := Nat × Option Int
def gS (o : List Int) (lo hi : Int) (st : St) : Int × St := match st.2 with
  | some _ => (lo, st)
  | none => match rdB o lo hi st.1 with
    | .ok v j => (v, (j, none))
    | .bad e => (lo, (st.1, some (e : Int)))
def fS (wr : Bool) (s : Int) (st : St) : St := match st.2 with
  | some _ => st
  | none => (st.1, if wr then some s else none)
def lS (o : List Int) : Nat → Int → Int → Int → St → Int × St
  | 0, t, _, _, st => (t, st)
  | f + 1, t, w, v, st => if 128 ≤ v ∧ st.2 = none then lS o f (t + (gS o 0 255 st).1 % 128 * w) (w * 128) (gS o 0 255 st).1 (fS (decide ((gS o 0 255 st).1 = 0) && decide (1 < w)) (((gS o 0 255 st).2.1 : Int) - 1) (gS o 0 255 st).2) else (t, st)
def bS4 (o : List Int) (one other len : Int) (st : St) : Quad × St :=
  (⟨one, other, len, (lS o (o.length + 1) 0 1 128 st).1⟩, fS (decide (1000000000000000000 < (lS o (o.length + 1) 0 1 128 st).1)) st.1 (lS o (o.length + 1) 0 1 128 st).2)
def bS3 (o : List Int) (one other : Int) (st : St) : Quad × St := bS4 o one other (gS o 1 99 st).1 (gS o 1 99 st).2
def bS2 (o : List Int) (c one : Int) (st : St) : Quad × St := bS3 o one (gS o 0 (c - 1) st).1 (fS (decide (one = (gS o 0 (c - 1) st).1)) st.1 (gS o 0 (c - 1) st).2)
def bS (o : List Int) (c : Int) (st : St) : Quad × St := bS2 o c (gS o 0 (c - 1) st).1 (gS o 0 (c - 1) st).2
def bsS (o : List Int) (c : Int) : Nat → St → List Quad × St
  | 0, st => ([], st)
  | n + 1, st => ((bS o c st).1 :: (bsS o c n (bS o c st).2).1, (bsS o c n (bS o c st).2).2)
def eS (o : List Int) : List Int → St → St
  | [], st => st
  | v :: vs, st => eS o vs (gS o v v st).2
def tS3 (o : List Int) (st : St) : St := fS (decide (st.1 < o.length)) st.1 st
def tS2 (o : List Int) (st : St) : St := tS3 o (eS o (ck (o.take st.1)) st)
def tS1 (o : List Int) (c n : Int) (st : St) : (Int × List Quad) × St := ((c, (bsS o c n.toNat st).1), tS2 o (bsS o c n.toNat st).2)
def tS (o : List Int) : (Int × List Quad) × St := tS1 o (gS o 1 12 (gS o 84 84 (0, none)).2).1 (gS o 0 24 (gS o 1 12 (gS o 84 84 (0, none)).2).2).1 (gS o 0 24 (gS o 1 12 (gS o 84 84 (0, none)).2).2).2
def okS (o : List Int) (st : St) : Prop := st.1 ≤ o.length
theorem gS_ok {o : List Int} {lo hi : Int} {st : St} (h : okS o st) : okS o (gS o lo hi st).2 := by
  unfold gS
  split
  · exact h
  · cases e : rdB o lo hi st.1 with
    | bad e2 => exact h
    | ok v j => have := rdB_ok e; exact show j ≤ o.length by omega
theorem fS_ok {o : List Int} {wr : Bool} {s : Int} {st : St} (h : okS o st) : okS o (fS wr s st) := by
  unfold fS
  split <;> exact h
theorem gS_in {o : List Int} {lo hi : Int} {st : St} (h : lo ≤ hi) : lo ≤ (gS o lo hi st).1 ∧ (gS o lo hi st).1 ≤ hi := by
  unfold gS
  split
  · exact ⟨by omega, h⟩
  · cases e : rdB o lo hi st.1 with
    | bad e2 => exact ⟨by dsimp only; omega, h⟩
    | ok v j => exact (rdB_ok e).2.1
section
variable {a : Ad} {o : List Int} {w : Nat} {S : Store} (hw : w < S.length) (hl : o.length ≤ 310)
abbrev wt (o : List Int) (w : Nat) (S : Store) (st : St) : Store := ws o w S st.1 st.2
include hw
theorem get_s (lo hi : Int) {st : St} (h : okS o st) : g_law_get a [.ptr w, .int lo, .int hi] (wt o w S st) = .ok (.int (gS o lo hi st).1) (wt o w S (gS o lo hi st).2) := by
  obtain ⟨i, b⟩ := st
  cases b with
  | some e => exact get_f hw lo hi i e
  | none =>
    have := get_n (a := a) (S := S) hw lo hi i h
    unfold gS
    simp only [wt] at this ⊢
    rw [this]
    cases rdB o lo hi i <;> rfl
theorem c_get {z : Sl} (hz : z[0]? = some (.d (.ptr w))) {st : St} (h : okS o st) {cl ch : CE} {lo hi : Int} (h1 : cl z (wt o w S st) = .ok (.int lo) (wt o w S st)) (h2 : ch z (wt o w S st) = .ok (.int hi) (wt o w S st)) :
    cCall (g_law_get a) (aCons (cVar 0) (aCons cl (aCons ch aNil))) z (wt o w S st) = .ok (.int (gS o lo hi st).1) (wt o w S (gS o lo hi st).2) := by
  simp only [ev_call, ev_cons, ev_var, hz, ev_slot, R.bind, h1, h2, ev_nil, get_s hw lo hi h]
theorem c_fault {z : Sl} (hz : z[0]? = some (.d (.ptr w))) {st : St} {cl ch : CE} {wr : Bool} {s : Int} (h1 : cl z (wt o w S st) = .ok (.bl wr) (wt o w S st)) (h2 : ch z (wt o w S st) = .ok (.int s) (wt o w S st)) :
    sExpr (cCall (g_law_fault a) (aCons (cVar 0) (aCons cl (aCons ch aNil)))) z (wt o w S st) = .nx z (wt o w S (fS wr s st)) := by
  have : g_law_fault a [.ptr w, .bl wr, .int s] (wt o w S st) = .ok .non (wt o w S (fS wr s st)) := by
    obtain ⟨i, b⟩ := st
    cases b with
    | some e => exact fault_f hw wr s i e
    | none => exact fault_n hw wr s i
  simp only [ev_expr, ev_call, ev_cons, ev_var, hz, ev_slot, R.bind, h1, h2, ev_nil, this, ev_do]
theorem c_at {z : Sl} (hz : z[0]? = some (.d (.ptr w))) (st : St) : c2 oDGet (cVar 0) (cK (.str ("at" : Str))) z (wt o w S st) = .ok (.int st.1) (wt o w S st) := e_at hw hz _ _
theorem c_oct {z : Sl} (hz : z[0]? = some (.d (.ptr w))) (st : St) : c2 oDGet (cVar 0) (cK (.str ("octets" : Str))) z (wt o w S st) = .ok (li o) (wt o w S st) := e_oct hw hz _ _
theorem t_bad {z : Sl} (hz : z[0]? = some (.d (.ptr w))) (st : St) : tB (c2 xIsN (c2 oDGet (cVar 0) (cK (.str ("bad" : Str)))) (cK .non)) z (wt o w S st) = .ok (decide (st.2 = none)) (wt o w S st) := by
  obtain ⟨i, b⟩ := st
  rw [ev_tB, ev_c2, e_bad hw hz]
  cases b <;> simp [xIsN, oIsN, isNon, bD]
theorem lS_run (c l2 x3 x4 x5 x6 x7 : SV) : ∀ (f n : Nat) (t wt_ v : Int) (st : St), okS o st → (st.2 = none → o.length < st.1 + f) → f < n →
    ∃ w' v', wloop (CL.tAnd (tB (c2 oGe (cVar 10) (cK (.int 128)))) (tB (c2 xIsN (c2 oDGet (cVar 0) (cK (.str ("bad" : Str)))) (cK .non)))) (b_law_read_11 a) n [.d (.ptr w), c, l2, x3, x4, x5, x6, x7, .d (.int t), .d (.int wt_), .d (.int v)] (wt o w S st) = .nx [.d (.ptr w), c, l2, x3, x4, x5, x6, x7, .d (.int (lS o f t wt_ v st).1), w', v'] (wt o w S (lS o f t wt_ v st).2) ∧ okS o (lS o f t wt_ v st).2
  | f, 0, t, wt_, v, st, h1, h2, h3 => by omega
  | f, n + 1, t, wt_, v, st, h1, h2, h3 => by
    have tt : CL.tAnd (tB (c2 oGe (cVar 10) (cK (.int 128)))) (tB (c2 xIsN (c2 oDGet (cVar 0) (cK (.str ("bad" : Str)))) (cK .non))) [.d (.ptr w), c, l2, x3, x4, x5, x6, x7, .d (.int t), .d (.int wt_), .d (.int v)] (wt o w S st) = .ok (decide (128 ≤ v ∧ st.2 = none)) (wt o w S st) := by
      have tb := t_bad (o := o) (S := S) hw (z := [.d (.ptr w), c, l2, x3, x4, x5, x6, x7, .d (.int t), .d (.int wt_), .d (.int v)]) rfl st
      rw [ev_tAnd, ev_tB]
      simp only [ev_c2, ev_var, List.getElem?_cons_succ, List.getElem?_cons_zero, ev_slot, R.bind, ev_k, oGe, oCmp]
      by_cases g : 128 ≤ v
      · simp only [decide_eq_true g, if_true, tb]
        simp [g]
      · simp only [decide_eq_false g, Bool.false_eq_true, if_false]
        simp [g]
    by_cases g : 128 ≤ v ∧ st.2 = none
    · cases f with
      | zero => have := h2 g.2; have h1' : st.1 ≤ o.length := h1; omega
      | succ f =>
        have G := gS_ok (o := o) (lo := 0) (hi := 255) h1
        have g1 := c_get (a := a) (S := S) hw (z := [.d (.ptr w), c, l2, x3, x4, x5, x6, x7, .d (.int t), .d (.int wt_), .d (.int v)]) rfl h1 (cl := cK (.int 0)) (ch := cK (.int 255)) (lo := 0) (hi := 255) (by simp) (by simp)
        have gi := gS_in (o := o) (lo := 0) (hi := 255) (st := st) (by decide)
        rw [lS, if_pos g]
        have nxt : (gS o 0 255 st).2.2 = none → (gS o 0 255 st).2.1 = st.1 + 1 := by
          unfold gS
          rw [g.2]
          simp only
          cases e : rdB o 0 255 st.1 with
          | bad e2 => intro h; cases h
          | ok v2 j => intro _; exact (rdB_ok e).2.2.1
        generalize gS o 0 255 st = p at G g1 gi nxt ⊢
        obtain ⟨u, st1⟩ := p
        simp only at G g1 gi nxt ⊢
        have p12 : q_law_read_12 a [.d (.ptr w), c, l2, x3, x4, x5, x6, x7, .d (.int t), .d (.int wt_), .d (.int v)] (wt o w S st) = .nx [.d (.ptr w), c, l2, x3, x4, x5, x6, x7, .d (.int t), .d (.int wt_), .d (.int u)] (wt o w S st1) := by
          unfold q_law_read_12
          rw [ev_set, g1, ev_do]; rfl
        have p13 : q_law_read_13 a [.d (.ptr w), c, l2, x3, x4, x5, x6, x7, .d (.int t), .d (.int wt_), .d (.int u)] (wt o w S st1) = .nx [.d (.ptr w), c, l2, x3, x4, x5, x6, x7, .d (.int t), .d (.int wt_), .d (.int u)] (wt o w S (fS (decide (u = 0) && decide (1 < wt_)) ((st1.1 : Int) - 1) st1)) := by
          refine c_fault hw rfl ?_ ?_
          · by_cases q : u = 0 <;> simp [q, oGt, oCmp]
          · rw [ev_c2, c_at hw rfl]
            simp [oSub]
        have sm : smallI (u % 128) = true := by
          have := Int.emod_nonneg u (show (128 : Int) ≠ 0 by decide)
          have := Int.emod_lt_of_pos u (show (0 : Int) < 128 by decide)
          simp [smallI]; omega
        generalize hs2 : fS (decide (u = 0) && decide (1 < wt_)) ((st1.1 : Int) - 1) st1 = st2 at p13 ⊢
        have p14 : q_law_read_14 a [.d (.ptr w), c, l2, x3, x4, x5, x6, x7, .d (.int t), .d (.int wt_), .d (.int u)] (wt o w S st2) = .nx [.d (.ptr w), c, l2, x3, x4, x5, x6, x7, .d (.int (t + u % 128 * wt_)), .d (.int wt_), .d (.int u)] (wt o w S st2) := by
          simp [q_law_read_14, bInt, oMod, oMul, oAdd, sm]
        have p15 : q_law_read_15 a [.d (.ptr w), c, l2, x3, x4, x5, x6, x7, .d (.int (t + u % 128 * wt_)), .d (.int wt_), .d (.int u)] (wt o w S st2) = .nx [.d (.ptr w), c, l2, x3, x4, x5, x6, x7, .d (.int (t + u % 128 * wt_)), .d (.int (wt_ * 128)), .d (.int u)] (wt o w S st2) := by
          simp [q_law_read_15, oMul, smallI]
        have bb : b_law_read_11 a [.d (.ptr w), c, l2, x3, x4, x5, x6, x7, .d (.int t), .d (.int wt_), .d (.int v)] (wt o w S st) = .nx [.d (.ptr w), c, l2, x3, x4, x5, x6, x7, .d (.int (t + u % 128 * wt_)), .d (.int (wt_ * 128)), .d (.int u)] (wt o w S st2) := by
          unfold b_law_read_11
          rw [seq_nx p12, seq_nx p13, seq_nx p14, p15]
        have ok2 : okS o st2 := by rw [← hs2]; exact fS_ok G
        have nx2 : st2.2 = none → o.length < st2.1 + f := fun hn => by
          have h1n : st1.2 = none := by
            rw [← hs2] at hn
            unfold fS at hn
            split at hn
            · rename_i hsome; rw [hsome] at hn; cases hn
            · rename_i hnone; exact hnone
          have e1 : st2.1 = st1.1 := by
            rw [← hs2]; unfold fS; split <;> rfl
          have := h2 g.2
          have := nxt h1n
          omega
        obtain ⟨w', v', ih, oki⟩ := lS_run c l2 x3 x4 x5 x6 x7 f n (t + u % 128 * wt_) (wt_ * 128) u st2 ok2 nx2 (by omega)
        refine ⟨w', v', ?_, oki⟩
        unfold wloop
        rw [tt, ev_do, decide_eq_true g, if_pos rfl, bb]
        exact ih
    · refine ⟨.d (.int wt_), .d (.int v), ?_, ?_⟩
      · have : lS o f t wt_ v st = (t, st) := by cases f with
          | zero => rfl
          | succ f => rw [lS, if_neg g]
        rw [this]
        unfold wloop
        rw [tt, ev_do, decide_eq_false g]
        rfl
      · have : lS o f t wt_ v st = (t, st) := by cases f with
          | zero => rfl
          | succ f => rw [lS, if_neg g]
        rw [this]; exact h1
include hl
theorem bS_run {st : St} (h : okS o st) (c : Int) (acc : List D) (ha : acc.length < 1000) (x3 x4 x5 x6 x7 x8 x9 x10 : SV) :
    ∃ y4 y5 y6 y7 y8 y9 y10, b_law_read_4 a [.d (.ptr w), .d (.int c), .l acc, x3, x4, x5, x6, x7, x8, x9, x10] (wt o w S st) = .nx [.d (.ptr w), .d (.int c), .l (acc ++ [qd (bS o c st).1]), x3, y4, y5, y6, y7, y8, y9, y10] (wt o w S (bS o c st).2) ∧ okS o (bS o c st).2 := by
  have k1 := gS_ok (o := o) (lo := 0) (hi := c - 1) h
  have g1 := c_get (a := a) (S := S) hw (z := [.d (.ptr w), .d (.int c), .l acc, x3, x4, x5, x6, x7, x8, x9, x10]) rfl h (cl := cK (.int 0)) (ch := c2 oSub (cVar 1) (cK (.int 1))) (lo := 0) (hi := c - 1) (by simp) (by simp [oSub])
  unfold bS
  generalize gS o 0 (c - 1) st = p1 at k1 g1 ⊢
  obtain ⟨one, st1⟩ := p1
  simp only at k1 g1 ⊢
  have p5 : q_law_read_5 a [.d (.ptr w), .d (.int c), .l acc, x3, x4, x5, x6, x7, x8, x9, x10] (wt o w S st) = .nx [.d (.ptr w), .d (.int c), .l acc, x3, .d (.int one), x5, x6, x7, x8, x9, x10] (wt o w S st1) := by
    unfold q_law_read_5; rw [ev_set, g1, ev_do]; rfl
  have p6 : q_law_read_6 a [.d (.ptr w), .d (.int c), .l acc, x3, .d (.int one), x5, x6, x7, x8, x9, x10] (wt o w S st1) = .nx [.d (.ptr w), .d (.int c), .l acc, x3, .d (.int one), .d (.int st1.1), x6, x7, x8, x9, x10] (wt o w S st1) := by
    unfold q_law_read_6; rw [ev_set, c_at hw rfl, ev_do]; rfl
  have k2 := gS_ok (o := o) (lo := 0) (hi := c - 1) k1
  have g2 := c_get (a := a) (S := S) hw (z := [.d (.ptr w), .d (.int c), .l acc, x3, .d (.int one), .d (.int st1.1), x6, x7, x8, x9, x10]) rfl k1 (cl := cK (.int 0)) (ch := c2 oSub (cVar 1) (cK (.int 1))) (lo := 0) (hi := c - 1) (by simp) (by simp [oSub])
  unfold bS2
  generalize gS o 0 (c - 1) st1 = p2 at k2 g2 ⊢
  obtain ⟨other, st2⟩ := p2
  simp only at k2 g2 ⊢
  have p7 : q_law_read_7 a [.d (.ptr w), .d (.int c), .l acc, x3, .d (.int one), .d (.int st1.1), x6, x7, x8, x9, x10] (wt o w S st1) = .nx [.d (.ptr w), .d (.int c), .l acc, x3, .d (.int one), .d (.int st1.1), .d (.int other), x7, x8, x9, x10] (wt o w S st2) := by
    unfold q_law_read_7; rw [ev_set, g2, ev_do]; rfl
  have p8 : q_law_read_8 a [.d (.ptr w), .d (.int c), .l acc, x3, .d (.int one), .d (.int st1.1), .d (.int other), x7, x8, x9, x10] (wt o w S st2) = .nx [.d (.ptr w), .d (.int c), .l acc, x3, .d (.int one), .d (.int st1.1), .d (.int other), x7, x8, x9, x10] (wt o w S (fS (decide (one = other)) st1.1 st2)) := c_fault hw rfl (by simp) (by simp)
  have k3 := fS_ok (wr := decide (one = other)) (s := st1.1) k2
  generalize fS (decide (one = other)) st1.1 st2 = st3 at p8 k3 ⊢
  have k4 := gS_ok (o := o) (lo := 1) (hi := 99) k3
  have g4 := c_get (a := a) (S := S) hw (z := [.d (.ptr w), .d (.int c), .l acc, x3, .d (.int one), .d (.int st1.1), .d (.int other), x7, x8, x9, x10]) rfl k3 (cl := cK (.int 1)) (ch := cK (.int 99)) (lo := 1) (hi := 99) (by simp) (by simp)
  unfold bS3
  generalize gS o 1 99 st3 = p4 at k4 g4 ⊢
  obtain ⟨len, st4⟩ := p4
  simp only at k4 g4 ⊢
  have p9 : q_law_read_9 a [.d (.ptr w), .d (.int c), .l acc, x3, .d (.int one), .d (.int st1.1), .d (.int other), x7, x8, x9, x10] (wt o w S st3) = .nx [.d (.ptr w), .d (.int c), .l acc, x3, .d (.int one), .d (.int st4.1), .d (.int other), .d (.int len), x8, x9, x10] (wt o w S st4) := by
    have ea := c_at (o := o) (S := S) hw (z := [.d (.ptr w), .d (.int c), .l acc, x3, .d (.int one), .d (.int st1.1), .d (.int other), x7, x8, x9, x10]) rfl st4
    unfold q_law_read_9
    rw [ev_par, ev_cons, g4]
    simp only [R.bind, ev_cons, ea, ev_nil, ev_do]
    rfl
  have p10 : q_law_read_10 a [.d (.ptr w), .d (.int c), .l acc, x3, .d (.int one), .d (.int st4.1), .d (.int other), .d (.int len), x8, x9, x10] (wt o w S st4) = .nx [.d (.ptr w), .d (.int c), .l acc, x3, .d (.int one), .d (.int st4.1), .d (.int other), .d (.int len), .d (.int 0), .d (.int 1), .d (.int 128)] (wt o w S st4) := by
    simp [q_law_read_10]
  have k4' : st4.1 ≤ o.length := k4
  obtain ⟨w', v', p11, k5⟩ := lS_run (a := a) (o := o) (S := S) hw (.d (.int c)) (.l acc) x3 (.d (.int one)) (.d (.int st4.1)) (.d (.int other)) (.d (.int len)) (o.length + 1) 400 0 1 128 st4 k4 (fun _ => by omega) (by omega)
  unfold bS4
  generalize lS o (o.length + 1) 0 1 128 st4 = p5' at p11 k5 ⊢
  obtain ⟨tot, st5⟩ := p5'
  simp only at p11 k5 ⊢
  have p16 : q_law_read_16 a [.d (.ptr w), .d (.int c), .l acc, x3, .d (.int one), .d (.int st4.1), .d (.int other), .d (.int len), .d (.int tot), w', v'] (wt o w S st5) = .nx [.d (.ptr w), .d (.int c), .l acc, x3, .d (.int one), .d (.int st4.1), .d (.int other), .d (.int len), .d (.int tot), w', v'] (wt o w S (fS (decide (1000000000000000000 < tot)) st4.1 st5)) := c_fault hw rfl (by simp [oPow, pow18, oGt, oCmp]) (by simp)
  have p17 : ∀ st6, q_law_read_17 a [.d (.ptr w), .d (.int c), .l acc, x3, .d (.int one), .d (.int st4.1), .d (.int other), .d (.int len), .d (.int tot), w', v'] (wt o w S st6) = .nx [.d (.ptr w), .d (.int c), .l (acc ++ [qd ⟨one, other, len, tot⟩]), x3, .d (.int one), .d (.int st4.1), .d (.int other), .d (.int len), .d (.int tot), w', v'] (wt o w S st6) := fun st6 => by
    simp [q_law_read_17, qd]; omega
  refine ⟨.d (.int one), .d (.int st4.1), .d (.int other), .d (.int len), .d (.int tot), w', v', ?_, fS_ok k5⟩
  unfold b_law_read_4
  rw [seq_nx p5, seq_nx p6, seq_nx p7, seq_nx p8, seq_nx p9, seq_nx p10, seq_nx (show q_law_read_11 a [.d (.ptr w), .d (.int c), .l acc, x3, .d (.int one), .d (.int st4.1), .d (.int other), .d (.int len), .d (.int 0), .d (.int 1), .d (.int 128)] (wt o w S st4) = .nx [.d (.ptr w), .d (.int c), .l acc, x3, .d (.int one), .d (.int st4.1), .d (.int other), .d (.int len), .d (.int tot), w', v'] (wt o w S st5) from p11), seq_nx p16, p17]
theorem bsS_run (c : Int) : ∀ (ks : List D) (st : St) (acc : List D) (x3 x4 x5 x6 x7 x8 x9 x10 : SV), okS o st → acc.length + ks.length ≤ 1000 →
    ∃ y3 y4 y5 y6 y7 y8 y9 y10, loop (gN 3) (b_law_read_4 a) ks [.d (.ptr w), .d (.int c), .l acc, x3, x4, x5, x6, x7, x8, x9, x10] (wt o w S st) = .nx [.d (.ptr w), .d (.int c), .l (acc ++ (bsS o c ks.length st).1.map qd), y3, y4, y5, y6, y7, y8, y9, y10] (wt o w S (bsS o c ks.length st).2) ∧ okS o (bsS o c ks.length st).2
  | [], st, acc, x3, x4, x5, x6, x7, x8, x9, x10, h, _ => ⟨x3, x4, x5, x6, x7, x8, x9, x10, by simp [bsS], h⟩
  | k :: ks, st, acc, x3, x4, x5, x6, x7, x8, x9, x10, h, hn => by
    simp only [List.length_cons] at hn
    obtain ⟨y4, y5, y6, y7, y8, y9, y10, e1, h1⟩ := bS_run (a := a) (S := S) hw hl h c acc (by omega) (.d k) x4 x5 x6 x7 x8 x9 x10
    obtain ⟨z3, z4, z5, z6, z7, z8, z9, z10, e2, h2⟩ := bsS_run c ks (bS o c st).2 (acc ++ [qd (bS o c st).1]) (.d k) y4 y5 y6 y7 y8 y9 y10 h1 (by simp; omega)
    refine ⟨z3, z4, z5, z6, z7, z8, z9, z10, ?_, h2⟩
    rw [loop_cons (z1 := [.d (.ptr w), .d (.int c), .l acc, .d k, x4, x5, x6, x7, x8, x9, x10]) rfl e1, e2]
    simp [bsS]
omit hl in
theorem eS_run (c l2 x3 x4 x5 x6 x7 x8 x9 : SV) : ∀ (vs : List Int) (st : St) (x10 : SV), okS o st →
    ∃ y10, loop (gN 10) (q_law_read_19 a) (vs.map D.int) [.d (.ptr w), c, l2, x3, x4, x5, x6, x7, x8, x9, x10] (wt o w S st) = .nx [.d (.ptr w), c, l2, x3, x4, x5, x6, x7, x8, x9, y10] (wt o w S (eS o vs st)) ∧ okS o (eS o vs st)
  | [], st, x10, h => ⟨x10, rfl, h⟩
  | v :: vs, st, x10, h => by
    have g1 := c_get (a := a) (S := S) hw (z := [.d (.ptr w), c, l2, x3, x4, x5, x6, x7, x8, x9, .d (.int v)]) rfl h (cl := cVar 10) (ch := cVar 10) (lo := v) (hi := v) (by simp) (by simp)
    obtain ⟨y10, e2, h2⟩ := eS_run c l2 x3 x4 x5 x6 x7 x8 x9 vs (gS o v v st).2 (.d (.int v)) (gS_ok h)
    refine ⟨y10, ?_, h2⟩
    rw [List.map_cons, loop_cons (z1 := [.d (.ptr w), c, l2, x3, x4, x5, x6, x7, x8, x9, .d (.int v)]) rfl (show q_law_read_19 a _ _ = .nx [.d (.ptr w), c, l2, x3, x4, x5, x6, x7, x8, x9, .d (.int v)] (wt o w S (gS o v v st).2) by unfold q_law_read_19; rw [ev_expr, g1, ev_do])]
    exact e2
theorem tS_run : g_law_read a [.ptr w] (wt o w S (0, none)) = .ok (.tup [.int (tS o).1.1, tq (tS o).1.2]) (wt o w S (tS o).2) ∧ okS o (tS o).2 := by
  have k0 : okS o (0, none) := Nat.zero_le _
  have g1 := c_get (a := a) (S := S) hw (z := [.d (.ptr w), .u, .u, .u, .u, .u, .u, .u, .u, .u, .u]) rfl k0 (cl := cK (.int 84)) (ch := cK (.int 84)) (lo := 84) (hi := 84) (by simp) (by simp)
  have k1 := gS_ok (o := o) (lo := 84) (hi := 84) k0
  unfold tS
  generalize (gS o 84 84 (0, none)) = p1 at g1 k1 ⊢
  obtain ⟨u1, st1⟩ := p1
  simp only at g1 k1 ⊢
  have p1 : q_law_read_1 a [.d (.ptr w), .u, .u, .u, .u, .u, .u, .u, .u, .u, .u] (wt o w S (0, none)) = .nx [.d (.ptr w), .u, .u, .u, .u, .u, .u, .u, .u, .u, .u] (wt o w S st1) := by
    unfold q_law_read_1; rw [ev_expr, g1, ev_do]
  have g2 := c_get (a := a) (S := S) hw (z := [.d (.ptr w), .u, .u, .u, .u, .u, .u, .u, .u, .u, .u]) rfl k1 (cl := cK (.int 1)) (ch := cK (.int 12)) (lo := 1) (hi := 12) (by simp) (by simp)
  have k2 := gS_ok (o := o) (lo := 1) (hi := 12) k1
  generalize (gS o 1 12 st1) = p2 at g2 k2 ⊢
  obtain ⟨c, st2⟩ := p2
  simp only at g2 k2 ⊢
  have p2 : q_law_read_2 a [.d (.ptr w), .u, .u, .u, .u, .u, .u, .u, .u, .u, .u] (wt o w S st1) = .nx [.d (.ptr w), .d (.int c), .u, .u, .u, .u, .u, .u, .u, .u, .u] (wt o w S st2) := by
    unfold q_law_read_2; rw [ev_set, g2, ev_do]; rfl
  have p3 : sSetL 2 (cLst aNil) [.d (.ptr w), .d (.int c), .u, .u, .u, .u, .u, .u, .u, .u, .u] (wt o w S st2) = .nx [.d (.ptr w), .d (.int c), .l [], .u, .u, .u, .u, .u, .u, .u, .u] (wt o w S st2) := by simp
  have g3 := c_get (a := a) (S := S) hw (z := [.d (.ptr w), .d (.int c), .l [], .u, .u, .u, .u, .u, .u, .u, .u]) rfl k2 (cl := cK (.int 0)) (ch := cK (.int 24)) (lo := 0) (hi := 24) (by simp) (by simp)
  have k3 := gS_ok (o := o) (lo := 0) (hi := 24) k2
  have i3 := gS_in (o := o) (lo := 0) (hi := 24) (st := st2) (by decide)
  generalize (gS o 0 24 st2) = p4 at g3 k3 i3 ⊢
  obtain ⟨n, st3⟩ := p4
  simp only at g3 k3 i3 ⊢
  obtain ⟨m, rfl⟩ : ∃ m : Nat, n = m := ⟨n.toNat, by omega⟩
  have it : CL.iRange1 (cCall (g_law_get a) (aCons (cVar 0) (aCons (cK (.int 0)) (aCons (cK (.int 24)) aNil)))) [.d (.ptr w), .d (.int c), .l [], .u, .u, .u, .u, .u, .u, .u, .u] (wt o w S st2) = .ok ((List.range' 0 m).map fun (k : Nat) => D.int (k : Int)) (wt o w S st3) := iRange1_nat g3 (by omega)
  obtain ⟨y3, y4, y5, y6, y7, y8, y9, y10, e4, k4⟩ := bsS_run (a := a) (S := S) hw hl c ((List.range' 0 m).map fun (k : Nat) => D.int (k : Int)) st3 [] .u .u .u .u .u .u .u .u k3 (by simp; omega)
  simp only [List.length_map, List.length_range', List.nil_append] at e4 k4
  unfold tS1
  simp only [Int.toNat_natCast]
  generalize (bsS o c m st3) = p5 at e4 k4 ⊢
  obtain ⟨qs, st4⟩ := p5
  simp only at e4 k4 ⊢
  have p4 : q_law_read_4 a [.d (.ptr w), .d (.int c), .l [], .u, .u, .u, .u, .u, .u, .u, .u] (wt o w S st2) = .nx [.d (.ptr w), .d (.int c), .l (qs.map qd), y3, y4, y5, y6, y7, y8, y9, y10] (wt o w S st4) := by
    unfold q_law_read_4
    rw [ev_for, it, ev_do]; exact e4
  have eo := c_oct (o := o) (S := S) hw (z := [.d (.ptr w), .d (.int c), .l (qs.map qd), y3, y4, y5, y6, y7, y8, y9, y10]) rfl st4
  have ea := c_at (o := o) (S := S) hw (z := [.d (.ptr w), .d (.int c), .l (qs.map qd), y3, y4, y5, y6, y7, y8, y9, y10]) rfl st4
  have cut := cutP (n := st4.1) k4 eo ea
  have ckk := lck_ok (a := a) (S := wt o w S st4) (o.take st4.1)
  have it5 : CL.iSeq (cCall (g_law_checksum a) (aCons (cCut (c2 oDGet (cVar 0) (cK (.str ("octets" : Str)))) oNone (oSome (c2 oDGet (cVar 0) (cK (.str ("at" : Str)))))) aNil)) [.d (.ptr w), .d (.int c), .l (qs.map qd), y3, y4, y5, y6, y7, y8, y9, y10] (wt o w S st4) = .ok ((ck (o.take st4.1)).map D.int) (wt o w S st4) := by
    unfold CL.iSeq
    rw [ev_call]
    simp only [ev_cons, cut, R.bind, ev_nil, ckk]
  obtain ⟨w10, e18, k5⟩ := eS_run (a := a) (o := o) (S := S) hw (.d (.int c)) (.l (qs.map qd)) y3 y4 y5 y6 y7 y8 y9 (ck (o.take st4.1)) st4 y10 k4
  unfold tS2
  generalize (eS o (ck (o.take st4.1)) st4) = st5 at e18 k5 ⊢
  have p18 : q_law_read_18 a [.d (.ptr w), .d (.int c), .l (qs.map qd), y3, y4, y5, y6, y7, y8, y9, y10] (wt o w S st4) = .nx [.d (.ptr w), .d (.int c), .l (qs.map qd), y3, y4, y5, y6, y7, y8, y9, w10] (wt o w S st5) := by
    unfold q_law_read_18
    rw [ev_for, it5, ev_do]; exact e18
  have eo5 := c_oct (o := o) (S := S) hw (z := [.d (.ptr w), .d (.int c), .l (qs.map qd), y3, y4, y5, y6, y7, y8, y9, w10]) rfl st5
  have ea5 := c_at (o := o) (S := S) hw (z := [.d (.ptr w), .d (.int c), .l (qs.map qd), y3, y4, y5, y6, y7, y8, y9, w10]) rfl st5
  have p20 : q_law_read_20 a [.d (.ptr w), .d (.int c), .l (qs.map qd), y3, y4, y5, y6, y7, y8, y9, w10] (wt o w S st5) = .nx [.d (.ptr w), .d (.int c), .l (qs.map qd), y3, y4, y5, y6, y7, y8, y9, w10] (wt o w S (tS3 o st5)) := by
    refine c_fault hw rfl ?_ ea5
    rw [ev_c2, ea5]
    simp only [R.bind, ev_app, ev_cons, eo5, ev_nil, bLen, itemsOf, oLt, oCmp, List.length_map]
    simp
  refine ⟨run_rt ?_, fS_ok k5⟩
  show c_law_read a [.d (.ptr w), .u, .u, .u, .u, .u, .u, .u, .u, .u, .u] (wt o w S (0, none)) = _
  unfold c_law_read
  rw [seq_nx p1, seq_nx p2, seq_nx p3, seq_nx p4, seq_nx p18, seq_nx p20]
  simp [q_law_read_21, bTuple, tq]
end
end Law
set_option Elab.async false
set_option linter.all false
set_option maxRecDepth 100000
set_option maxHeartbeats 4000000
namespace Law
open PySem CL
variable [TheK]
section
variable {o : List Int}
theorem gS_some (lo hi : Int) (i : Nat) (e : Int) : gS o lo hi (i, some e) = (lo, (i, some e)) := rfl
theorem fS_some (wr : Bool) (s : Int) (i : Nat) (e : Int) : fS wr s (i, some e) = (i, some e) := rfl
theorem gS_good {lo hi v : Int} {i j : Nat} (h : rdB o lo hi i = .ok v j) : gS o lo hi (i, none) = (v, (j, none)) := by
  unfold gS; simp only [h]
theorem gS_fail {lo hi : Int} {i e : Nat} (h : rdB o lo hi i = .bad e) : gS o lo hi (i, none) = (lo, (i, some (e : Int))) := by
  unfold gS; simp only [h]
theorem fS_no (s : Int) (i : Nat) : fS false s (i, none) = (i, none) := rfl
theorem fS_yes (s : Int) (i : Nat) : fS true s (i, none) = (i, some s) := rfl
theorem lS_some (f : Nat) (t w v : Int) (i : Nat) (e : Int) : lS o f t w v (i, some e) = (t, (i, some e)) := by
  cases f with
  | zero => rfl
  | succ f => rw [lS, if_neg (by rintro ⟨_, h⟩; cases h)]
theorem lS_small (f : Nat) (t w v : Int) (st : St) (h : ¬ 128 ≤ v) : lS o f t w v st = (t, st) := by
  cases f with
  | zero => rfl
  | succ f => rw [lS, if_neg (fun z => h z.1)]
theorem lS_rel : ∀ (f i : Nat) (t w v : Int), 128 ≤ v → i ≤ o.length → o.length < i + f → match lifeGo o f i t w with
    | .ok t' j => lS o f t w v (i, none) = (t', (j, none))
    | .bad e => ∃ t' i', lS o f t w v (i, none) = (t', (i', some (e : Int)))
  | 0, i, t, w, v, _, h1, h2 => by omega
  | f + 1, i, t, w, v, hv, h1, h2 => by
    rw [lS, if_pos ⟨hv, rfl⟩]
    unfold lifeGo
    cases e : rdB o 0 255 i with
    | bad e2 =>
      simp only
      rw [gS_fail e]
      exact ⟨_, _, lS_some ..⟩
    | ok u j =>
      obtain ⟨_, _, hj, hlt⟩ := rdB_ok e
      simp only
      rw [gS_good e]
      simp only
      by_cases g : u = 0 ∧ 1 < w
      · rw [if_pos g, decide_eq_true g.1, decide_eq_true g.2]
        simp only [Bool.and_self, fS_yes]
        refine ⟨t + u % 128 * w, j, (lS_some ..).trans ?_⟩
        rw [show ((j - 1 : Nat) : Int) = (j : Int) - 1 by omega]
      · rw [if_neg g, show (decide (u = 0) && decide (1 < w)) = false by
          rw [Bool.and_eq_false_iff]
          by_cases g1 : u = 0
          · exact .inr (decide_eq_false fun z => g ⟨g1, z⟩)
          · exact .inl (decide_eq_false g1)]
        rw [fS_no]
        by_cases g2 : 128 ≤ u
        · rw [if_pos g2]
          exact lS_rel f j _ _ u g2 (by omega) (by omega)
        · rw [if_neg g2]
          exact lS_small _ _ _ _ _ g2
theorem bS4_some (one other len : Int) (i : Nat) (e : Int) : ∃ q, bS4 o one other len (i, some e) = (q, (i, some e)) := ⟨⟨one, other, len, 0⟩, by unfold bS4; rw [lS_some]; rfl⟩
theorem bS3_some (one other : Int) (i : Nat) (e : Int) : ∃ q, bS3 o one other (i, some e) = (q, (i, some e)) := by unfold bS3; rw [gS_some]; exact bS4_some ..
theorem bS2_some (c one : Int) (i : Nat) (e : Int) : ∃ q, bS2 o c one (i, some e) = (q, (i, some e)) := by unfold bS2; rw [gS_some, fS_some]; exact bS3_some ..
theorem bS_some (c : Int) (i : Nat) (e : Int) : ∃ q, bS o c (i, some e) = (q, (i, some e)) := by unfold bS; rw [gS_some]; exact bS2_some ..
theorem bS_rel (c : Int) (i : Nat) (hi : i ≤ o.length) : match rdBr o c i with
    | .ok q j => bS o c (i, none) = (q, (j, none)) ∧ j ≤ o.length
    | .bad e => ∃ q i', bS o c (i, none) = (q, (i', some (e : Int))) := by
  unfold rdBr bS
  cases e1 : rdB o 0 (c - 1) i with
  | bad e =>
    simp only
    rw [gS_fail e1]
    obtain ⟨q, h⟩ := bS2_some (o := o) c 0 i e
    exact ⟨q, _, h⟩
  | ok one i1 =>
    obtain ⟨_, _, j1, l1⟩ := rdB_ok e1
    simp only
    rw [gS_good e1]
    unfold bS2
    simp only
    cases e2 : rdB o 0 (c - 1) i1 with
    | bad e =>
      simp only
      rw [gS_fail e2, fS_some]
      obtain ⟨q, h⟩ := bS3_some (o := o) one 0 i1 e
      exact ⟨q, _, h⟩
    | ok other i2 =>
      obtain ⟨_, _, j2, l2⟩ := rdB_ok e2
      simp only
      rw [gS_good e2]
      simp only
      by_cases g : one = other
      · rw [if_pos g, decide_eq_true g, fS_yes]
        obtain ⟨q, h⟩ := bS3_some (o := o) one other i2 i1
        exact ⟨q, _, h⟩
      · rw [if_neg g, decide_eq_false g, fS_no]
        unfold bS3
        cases e3 : rdB o 1 99 i2 with
        | bad e =>
          simp only
          rw [gS_fail e3]
          obtain ⟨q, h⟩ := bS4_some (o := o) one other 1 i2 e
          exact ⟨q, _, h⟩
        | ok len i3 =>
          obtain ⟨_, _, j3, l3⟩ := rdB_ok e3
          simp only
          rw [gS_good e3]
          have lr := lS_rel (o := o) (o.length + 1) i3 0 1 128 (by omega) (by omega) (by omega)
          unfold bS4 rdLife
          simp only
          cases e4 : lifeGo o (o.length + 1) i3 0 1 with
          | bad e =>
            rw [e4] at lr
            obtain ⟨t', i', lr⟩ := lr
            simp only
            rw [lr]
            exact ⟨_, _, rfl⟩
          | ok t j =>
            rw [e4] at lr
            simp only at lr ⊢
            rw [lr]
            simp only
            by_cases g2 : 1000000000000000000 < t
            · rw [if_pos g2, decide_eq_true g2, fS_yes]
              exact ⟨_, _, rfl⟩
            · rw [if_neg g2, decide_eq_false g2, fS_no]
              refine ⟨rfl, ?_⟩
              -- the cursor stays within
              have : ∀ (f i : Nat) (t w t' : Int) (j : Nat), lifeGo o f i t w = .ok t' j → j ≤ o.length := by
                intro f
                induction f with
                | zero => intro i t w t' j h; cases h
                | succ f ih =>
                  intro i t w t' j h
                  unfold lifeGo at h
                  cases e : rdB o 0 255 i with
                  | bad e2 => rw [e] at h; cases h
                  | ok v i' =>
                    rw [e] at h
                    obtain ⟨_, _, hj, hlt⟩ := rdB_ok e
                    simp only at h
                    split at h
                    · cases h
                    · split at h
                      · exact ih _ _ _ _ _ h
                      · cases h; omega
              exact this _ _ _ _ _ _ e4
theorem bsS_some (c : Int) (e : Int) (i : Nat) : ∀ n, ∃ qs, bsS o c n (i, some e) = (qs, (i, some e))
  | 0 => ⟨[], rfl⟩
  | n + 1 => by
    obtain ⟨q, h⟩ := bS_some (o := o) c i e
    obtain ⟨qs, h2⟩ := bsS_some c e i n
    exact ⟨q :: qs, by rw [bsS, h, h2]⟩
theorem bsS_rel (c : Int) : ∀ (n i : Nat), i ≤ o.length → match rdBrs o c n i with
    | .ok qs j => bsS o c n (i, none) = (qs, (j, none)) ∧ j ≤ o.length
    | .bad e => ∃ qs i', bsS o c n (i, none) = (qs, (i', some (e : Int)))
  | 0, i, hi => ⟨rfl, hi⟩
  | n + 1, i, hi => by
    have b := bS_rel (o := o) c i hi
    unfold rdBrs
    rw [bsS]
    cases e1 : rdBr o c i with
    | bad e =>
      rw [e1] at b
      obtain ⟨q, i', b⟩ := b
      obtain ⟨qs, h2⟩ := bsS_some (o := o) c e i' n
      simp only
      rw [b, h2]
      exact ⟨_, _, rfl⟩
    | ok q i1 =>
      rw [e1] at b
      obtain ⟨b, h1⟩ := b
      have ih := bsS_rel c n i1 h1
      simp only
      rw [b]
      cases e2 : rdBrs o c n i1 with
      | bad e =>
        rw [e2] at ih
        obtain ⟨qs, i', ih⟩ := ih
        simp only
        rw [ih]
        exact ⟨_, _, rfl⟩
      | ok qs j =>
        rw [e2] at ih
        simp only
        rw [ih.1]
        exact ⟨rfl, ih.2⟩
theorem eS_some (i : Nat) (e : Int) : ∀ vs : List Int, eS o vs (i, some e) = (i, some e)
  | [] => rfl
  | v :: vs => by rw [eS, gS_some]; exact eS_some i e vs
theorem eS_rel : ∀ (vs : List Int) (i : Nat), match rdEach o vs i with
    | .ok _ j => eS o vs (i, none) = (j, none)
    | .bad e => ∃ i', eS o vs (i, none) = (i', some (e : Int))
  | [], i => rfl
  | v :: vs, i => by
    unfold rdEach
    rw [eS]
    cases e1 : rdB o v v i with
    | bad e =>
      simp only
      rw [gS_fail e1]
      exact ⟨_, eS_some ..⟩
    | ok u i1 =>
      simp only
      rw [gS_good e1]
      exact eS_rel vs i1
theorem tS2_some (i : Nat) (e : Int) : tS2 o (i, some e) = (i, some e) := by unfold tS2 tS3; rw [eS_some, fS_some]
theorem tS1_some (c n : Int) (i : Nat) (e : Int) : ∃ p, tS1 o c n (i, some e) = (p, (i, some e)) := by
  obtain ⟨qs, h⟩ := bsS_some (o := o) c e i n.toNat
  exact ⟨(c, qs), by unfold tS1; rw [h]; simp only; rw [tS2_some]⟩
theorem tS_rel : match rdTown o with
    | .ok p j => tS o = (p, (j, none))
    | .bad e => ∃ p i', tS o = (p, (i', some (e : Int))) := by
  unfold rdTown tS
  cases e1 : rdB o 84 84 0 with
  | bad e =>
    simp only
    rw [gS_fail e1]
    simp only [gS_some]
    obtain ⟨p, h⟩ := tS1_some (o := o) 1 0 0 e
    exact ⟨p, _, h⟩
  | ok u1 i1 =>
    obtain ⟨_, _, j1, l1⟩ := rdB_ok e1
    simp only
    rw [gS_good e1]
    simp only
    cases e2 : rdB o 1 12 i1 with
    | bad e =>
      simp only
      rw [gS_fail e2]
      simp only [gS_some]
      obtain ⟨p, h⟩ := tS1_some (o := o) 1 0 i1 e
      exact ⟨p, _, h⟩
    | ok c i2 =>
      obtain ⟨_, _, j2, l2⟩ := rdB_ok e2
      simp only
      rw [gS_good e2]
      simp only
      cases e3 : rdB o 0 24 i2 with
      | bad e =>
        simp only
        rw [gS_fail e3]
        obtain ⟨p, h⟩ := tS1_some (o := o) c 0 i2 e
        exact ⟨p, _, h⟩
      | ok n i3 =>
        obtain ⟨_, _, j3, l3⟩ := rdB_ok e3
        simp only
        rw [gS_good e3]
        unfold tS1
        simp only
        have br := bsS_rel (o := o) c n.toNat i3 (by omega)
        cases e4 : rdBrs o c n.toNat i3 with
        | bad e =>
          rw [e4] at br
          obtain ⟨qs, i', br⟩ := br
          simp only
          rw [br]
          simp only
          rw [tS2_some]
          exact ⟨_, _, rfl⟩
        | ok qs i4 =>
          rw [e4] at br
          obtain ⟨br, l4⟩ := br
          simp only
          rw [br]
          simp only
          unfold tS2 tS3
          simp only
          have er := eS_rel (o := o) (ck (o.take i4)) i4
          cases e5 : rdEach o (ck (o.take i4)) i4 with
          | bad e =>
            rw [e5] at er
            obtain ⟨i', er⟩ := er
            simp only
            rw [er, fS_some]
            exact ⟨_, _, rfl⟩
          | ok u i5 =>
            rw [e5] at er
            simp only at er ⊢
            rw [er]
            simp only
            by_cases g : i5 < o.length
            · rw [if_pos g, decide_eq_true g, fS_yes]
              exact ⟨_, _, rfl⟩
            · rw [if_neg g, decide_eq_false g, fS_no]
theorem dropB {lo hi v : Int} {i j : Nat} (h : rdB o lo hi i = .ok v j) : o.drop i = v :: o.drop j := by
  obtain ⟨h1, _, rfl, hlt⟩ := rdB_ok h
  rw [List.drop_eq_getElem_cons hlt]
  rw [List.getElem?_eq_getElem hlt] at h1
  cases h1; rfl
theorem life_back : ∀ (f i : Nat) (t w t' : Int) (j : Nat), 1 ≤ w → lifeGo o f i t w = .ok t' j → ∃ n : Nat, t' = t + n * w ∧ o.drop i = gr n ++ o.drop j ∧ (1 < w → 1 ≤ n)
  | 0, i, t, w, t', j, _, h => by cases h
  | f + 1, i, t, w, t', j, hw, h => by
    unfold lifeGo at h
    cases e : rdB o 0 255 i with
    | bad e2 => rw [e] at h; cases h
    | ok v i' =>
      rw [e] at h
      obtain ⟨_, hb, _, _⟩ := rdB_ok e
      have hd := dropB e
      simp only at h
      split at h
      · cases h
      · rename_i hz
        split at h
        · rename_i hv
          obtain ⟨n', e1, e2, e3⟩ := life_back f i' _ _ _ _ (by omega) h
          have hn := e3 (by omega)
          obtain ⟨k, hk⟩ : ∃ k : Nat, v = 128 + k := ⟨(v - 128).toNat, by omega⟩
          have hk2 : k < 128 := by omega
          have hm : v % 128 = (k : Int) := by omega
          refine ⟨k + 128 * n', ?_, ?_, fun _ => by omega⟩
          · rw [e1, hm, Int.natCast_add, Int.add_mul, Int.natCast_mul]
            rw [show ((128 : Nat) : Int) * (n' : Int) * w = (n' : Int) * (w * 128) by
              rw [show ((128 : Nat) : Int) = 128 from rfl, Int.mul_comm 128 (n' : Int), Int.mul_assoc, Int.mul_comm 128 w]]
            omega
          · rw [hd, e2, gr_hi (n := k + 128 * n') (by omega), show (k + 128 * n') / 128 = n' by omega, show (k + 128 * n') % 128 + 128 = 128 + k by omega]
            rw [hk]; rfl
        · rename_i hv
          cases h
          obtain ⟨k, hk⟩ : ∃ k : Nat, v = k := ⟨v.toNat, by omega⟩
          subst hk
          refine ⟨k, ?_, ?_, fun hw1 => ?_⟩
          · rw [show (k : Int) % 128 = k by omega]
          · rw [hd, gr_lo (by omega)]; rfl
          · have : ¬ ((k : Int) = 0) := fun z => hz ⟨z, hw1⟩
            omega
theorem br_back {c : Int} {i j : Nat} {q : Quad} (h : rdBr o c i = .ok q j) : o.drop i = brB q ++ o.drop j := by
  unfold rdBr at h
  cases e1 : rdB o 0 (c - 1) i with
  | bad e => rw [e1] at h; cases h
  | ok one i1 =>
    rw [e1] at h
    simp only at h
    cases e2 : rdB o 0 (c - 1) i1 with
    | bad e => rw [e2] at h; cases h
    | ok other i2 =>
      rw [e2] at h
      simp only at h
      split at h
      · cases h
      · cases e3 : rdB o 1 99 i2 with
        | bad e => rw [e3] at h; cases h
        | ok len i3 =>
          rw [e3] at h
          simp only at h
          unfold rdLife at h
          cases e4 : lifeGo o (o.length + 1) i3 0 1 with
          | bad e => rw [e4] at h; cases h
          | ok t i4 =>
            rw [e4] at h
            simp only at h
            split at h
            · cases h
            · rename_i life i4' heq
              split at heq
              · cases heq
              · cases heq
                cases h
                obtain ⟨n, e5, e6, _⟩ := life_back _ _ _ _ _ _ (by decide) e4
                rw [dropB e1, dropB e2, dropB e3, e6]
                simp only [brB]
                rw [e5, show ((0 : Int) + (n : Int) * 1).toNat = n by omega]
                simp
theorem brs_back {c : Int} : ∀ {n i j : Nat} {qs : List Quad}, rdBrs o c n i = .ok qs j → o.drop i = qs.flatMap brB ++ o.drop j
  | 0, i, j, qs, h => by cases h; simp
  | n + 1, i, j, qs, h => by
    unfold rdBrs at h
    cases e1 : rdBr o c i with
    | bad e => rw [e1] at h; cases h
    | ok q i1 =>
      rw [e1] at h
      simp only at h
      cases e2 : rdBrs o c n i1 with
      | bad e => rw [e2] at h; cases h
      | ok qs2 i2 =>
        rw [e2] at h
        cases h
        rw [br_back e1, brs_back e2]
        simp
theorem each_back : ∀ {vs : List Int} {i j : Nat} {u : Unit}, rdEach o vs i = .ok u j → o.drop i = vs ++ o.drop j
  | [], i, j, u, h => by cases h; simp
  | v :: vs, i, j, u, h => by
    unfold rdEach at h
    cases e1 : rdB o v v i with
    | bad e => rw [e1] at h; cases h
    | ok v2 i1 =>
      rw [e1] at h
      simp only at h
      obtain ⟨_, hb, _, _⟩ := rdB_ok e1
      rw [dropB e1, each_back h, show v2 = v by omega]
      simp
theorem town_back {c : Int} {qs : List Quad} {j : Nat} (hb : areB o) (h : rdTown o = .ok (c, qs) j) : o = whole c qs ∧ (1 ≤ c ∧ c ≤ 12) ∧ qs.length ≤ 24 ∧ ∀ q ∈ qs, isL c q = true := by
  unfold rdTown at h
  cases e1 : rdB o 84 84 0 with
  | bad e => rw [e1] at h; cases h
  | ok u1 i1 =>
    rw [e1] at h
    simp only at h
    cases e2 : rdB o 1 12 i1 with
    | bad e => rw [e2] at h; cases h
    | ok c' i2 =>
      rw [e2] at h
      simp only at h
      cases e3 : rdB o 0 24 i2 with
      | bad e => rw [e3] at h; cases h
      | ok n i3 =>
        rw [e3] at h
        simp only at h
        cases e4 : rdBrs o c' n.toNat i3 with
        | bad e => rw [e4] at h; cases h
        | ok qs' i4 =>
          rw [e4] at h
          simp only at h
          cases e5 : rdEach o (ck (o.take i4)) i4 with
          | bad e => rw [e5] at h; cases h
          | ok u5 i5 =>
            rw [e5] at h
            simp only at h
            split at h
            · cases h
            · rename_i g
              cases h
              obtain ⟨_, b1, _, _⟩ := rdB_ok e1
              obtain ⟨_, b2, _, _⟩ := rdB_ok e2
              obtain ⟨_, b3, _, _⟩ := rdB_ok e3
              obtain ⟨ql, qL⟩ := rdBrs_ok hb e4
              have d : o = body c qs ++ o.drop i4 := by
                have h84 := dropB e1
                rw [List.drop_zero, dropB e2, dropB e3, brs_back e4] at h84
                refine h84.trans ?_
                unfold body
                rw [ql, show ((n.toNat : Nat) : Int) = n by omega, show u1 = 84 by omega]
                simp
              have tk : o.take i4 = body c qs := by
                have h1 : o.take i4 ++ o.drop i4 = body c qs ++ o.drop i4 := by rw [List.take_append_drop]; exact d
                exact List.append_cancel_right h1
              refine ⟨?_, b2, by omega, qL⟩
              unfold whole
              rw [tk] at e5
              have := each_back e5
              rw [List.drop_of_length_le (show o.length ≤ j by omega), List.append_nil] at this
              rw [this] at d
              exact d
end
end Law
set_option Elab.async false
set_option linter.all false
set_option maxRecDepth 100000
set_option maxHeartbeats 4000000
namespace Law
open PySem CL
variable [TheK]
theorem eq_li (neg : Bool) (ns : List Int) (S : Store) : oEq neg (li ns) (li ns) S = .ok (.bl (!neg)) S := by
  obtain ⟨c1, c2⟩ := ints_can ns
  refine eq_self _ (.list (ns.map PyData.int)) S (by simp [toPy, ints_toPy]) rfl ?_ neg
  simp [SeqAt.shaped, PyData.canLay0, c1, PyData.depth]
  omega
def dCount : D := .tup [.str ("InvalidCount" : Str)]
def dData (e : Int) : D := .tup [.str ("InvalidData" : Str), .int e]
theorem eq_count (neg : Bool) (S : Store) : oEq neg dCount dCount S = .ok (.bl (!neg)) S :=
  eq_self _ (.tuple [.str ("InvalidCount" : Str)]) S rfl rfl (by decide +kernel) neg
theorem eq_data (neg : Bool) (e : Int) (S : Store) : oEq neg (dData e) (dData e) S = .ok (.bl (!neg)) S := by
  refine eq_self _ (.tuple [.str ("InvalidData" : Str), .int e]) S rfl rfl ?_ neg
  have h : PyData.canLay0 (.str ("InvalidData" : Str)) = true := by decide +kernel
  simp only [PyData.canLay0] at h
  simp [SeqAt.shaped, PyData.canLay0, PyData.canLayAll0, PyData.depth, PyData.depthAll, h]
theorem eq_town (neg : Bool) (c : Int) (qs : List Quad) (S : Store) : oEq neg (.tup [.int c, tq qs]) (.tup [.int c, tq qs]) S = .ok (.bl (!neg)) S := by
  have c1 := can_qs qs
  have c2 := dep_qs qs
  refine eq_self _ (.tuple [.int c, .tuple (qs.map pyq)]) S (by simp [toPy, toPys, toPy_tq]) rfl ?_ neg
  simp [SeqAt.shaped, PyData.canLay0, PyData.canLayAll0, PyData.depth, PyData.depthAll, c1]
  omega
section
variable {a : Ad} {S : Store}
theorem out_ok {ac : List D → Store → R D} {d : D} {S' : Store} (h : ac [] S = .ok d S') : cb_law_outcome a ac [.f, .u] S = .rt d S' := by
  simp [cb_law_outcome, q_law_outcome_1, sTryM, h]
theorem out_count {ac : List D → Store → R D} {S' : Store} (h : ac [] S = .exc ⟨a.C_InvalidCount, [], []⟩ S') : cb_law_outcome a ac [.f, .u] S = .rt dCount S' := by
  have e1 : exm_InvalidCount a a.C_InvalidCount = some true := by simp [exm_InvalidCount]
  have e2 : sRet (cActF 0 ac fun _ S => .ok [] S) [.f, .u] S = .exc ⟨a.C_InvalidCount, [], []⟩ [.f, .u] S' := by simp [h]
  unfold cb_law_outcome q_law_outcome_1 sTryM
  rw [e2]
  simp only [hdGo, e1]
  simp [q_law_outcome_4, noX, isX, unz, dCount]
theorem out_data (hne : a.C_InvalidData ≠ a.C_InvalidCount) {ac : List D → Store → R D} {e : Nat} {S' : Store} (h : ac [] S = .exc (exD a e) S') : cb_law_outcome a ac [.f, .u] S = .rt (dData e) S' := by
  have e1 : exm_InvalidCount a (exD a e).cls = some false := by simp [exm_InvalidCount, exD, hne]
  have e3 : exm_InvalidData a (exD a e).cls = some true := by simp [exm_InvalidData, exD, hne]
  have e2 : sRet (cActF 0 ac fun _ S => .ok [] S) [.f, .u] S = .exc (exD a e) [.f, .u] S' := by simp [h]
  unfold cb_law_outcome q_law_outcome_1 sTryM
  rw [e2]
  simp only [hdGo, e1, e3]
  simp [q_law_outcome_6, cXf, exD, unx, dData]
/-- a lambda's outcome, as the law writes it -/
theorem lam_out {np : Nat} {act : CE} {js : List Nat} {z : Sl} {S S' : Store} {d : D} (h : cb_law_outcome a (lamG 0 act (capZ z js)) [.f, .u] S = .rt d S') : cLamN 2 (fun ac => cb_law_outcome a ac) 0 act js [] z S = .ok d S' := by
  rw [ev_lamN, ev_caNil]
  simp only [R.bind]
  rw [show (List.map SV.d [] ++ SV.f :: List.replicate (2 - List.length ([] : List D) - 1) SV.u) = [.f, .u] from rfl, h]
end
section
variable {a : Ad} {ns : List Int} (hl : ns.length ≤ 63)
include hl
omit hl in
theorem wr_ok (x0 x1 x2 x3 x4 x5 x6 x7 x8 x9 x10 x11 : SV) (S : Store) : ∀ (vs : List Int) (x12 : SV), (∀ v ∈ vs, v < 0 ∨ 255 < v) → ∃ y12, loop (gN 12) (q_law_23 a) (vs.map D.int) [x0, x1, x2, x3, x4, x5, x6, x7, x8, x9, x10, x11, x12] S = .nx [x0, x1, x2, x3, x4, x5, x6, x7, x8, x9, x10, x11, y12] S
  | [], x12, _ => ⟨x12, rfl⟩
  | v :: vs, x12, h => by
    obtain ⟨y, ih⟩ := wr_ok x0 x1 x2 x3 x4 x5 x6 x7 x8 x9 x10 x11 S vs (.d (.int v)) fun u hu => h u (List.mem_cons_of_mem _ hu)
    refine ⟨y, ?_⟩
    have pb := pack_bad (a := a) (S := S) (h v List.mem_cons_self)
    have lo : cLamN 2 (fun ac => cb_law_outcome a ac) 0 (cCall (g_pack_bytes a) (aCons (cLst (aCons (cK (.int 0)) (aCons (cVar 0) aNil))) aNil)) [12] [] [x0, x1, x2, x3, x4, x5, x6, x7, x8, x9, x10, x11, .d (.int v)] S = .ok dCount S := by
      refine lam_out (np := 0) (out_count ?_)
      rw [lamG_at (np := 0) (ds := []) rfl, show capZ [x0, x1, x2, x3, x4, x5, x6, x7, x8, x9, x10, x11, .d (.int v)] [12] = [.d (.int v)] from rfl]
      simp only [List.map_nil, List.nil_append, ev_call, ev_cons, ev_lst, ev_k, ev_var, List.getElem?_cons_zero, ev_slot, R.bind, ev_nil]
      exact pb
    have t : q_law_23 a [x0, x1, x2, x3, x4, x5, x6, x7, x8, x9, x10, x11, .d (.int v)] S = .nx [x0, x1, x2, x3, x4, x5, x6, x7, x8, x9, x10, x11, .d (.int v)] S := by
      have q := eq_count true S
      simp only [dCount] at q lo
      unfold q_law_23
      rw [ev_sif, ev_tB, ev_c2, lo]
      simp only [R.bind, ev_tup, ev_cons, ev_k, ev_nil]
      simp [q]
    rw [List.map_cons, loop_cons (z1 := [x0, x1, x2, x3, x4, x5, x6, x7, x8, x9, x10, x11, .d (.int v)]) rfl t]
    exact ih
omit hl in
theorem isL_W {c : Int} (hc : c ≤ 12) {q : Quad} (h : isL c q = true) : isW q := by
  obtain ⟨q1, q2, q3, q4⟩ := q
  rw [isL_iff] at h
  obtain ⟨⟨h1, h2, _⟩, h3, h4⟩ := h
  exact ⟨⟨by dsimp only; omega, by dsimp only; omega⟩, ⟨by dsimp only; omega, by dsimp only; omega⟩, ⟨by dsimp only; omega, by dsimp only; omega⟩, by dsimp only; omega, by dsimp only; omega⟩
omit hl in
theorem q9_ok {rest S : Store} (K : Kp ns rest S) (c : Int) (hc : 1 ≤ c ∧ c ≤ 12) {qs : List Quad} (hL : ∀ q ∈ qs, isL c q = true) (hlen : qs.length ≤ 24) (x0 x2 x6 x7 x8 x9 x10 x11 x12 : SV) :
    ∃ S' rest', q_law_9 a [x0, .d (.ptr 0), x2, .d (.int c), .d (tq qs), .d (li (body c qs)), x6, x7, x8, x9, x10, x11, x12] S = .nx [x0, .d (.ptr 0), x2, .d (.int c), .d (tq qs), .d (li (body c qs)), x6, x7, x8, x9, x10, x11, x12] S' ∧ Kp ns rest' S' := by
  have hW : ∀ q ∈ qs, isW q := fun q h => isL_W (by omega) (hL q h)
  have ini := init_ok a c qs (S ++ [.ins a.C_Town [] []]) S.length (by simp)
  have bn : badOf c qs = none := by
    unfold badOf
    rw [if_pos hc, badFrom_none (by omega) hL]
    rfl
  rw [bn] at ini
  simp only at ini
  have es : (S ++ [MO.ins a.C_Town [] []]).set S.length (.ins a.C_Town [("size" : Str), ("links" : Str)] [.int c, tq qs]) = S ++ [.ins a.C_Town [("size" : Str), ("links" : Str)] [.int c, tq qs]] := by
    rw [List.set_append_right _ _ (Nat.le_refl _)]; simp
  rw [es] at ini
  have ta : TownAt a c qs S.length (S ++ [.ins a.C_Town [("size" : Str), ("links" : Str)] [.int c, tq qs]]) := by unfold TownAt; simp
  have enc := enc_ok (a := a) ta ⟨by omega, by omega⟩ hW (by omega)
  have bl := body_len (c := c) hW
  have wl : (whole c qs).length ≤ 400 := by simp only [whole, List.length_append, ck, List.length_cons, List.length_nil]; omega
  have wb : areB (whole c qs) := whole_b ⟨by omega, by omega⟩ (by omega) hW
  have unp := unp_ok (a := a) (S := S ++ [.ins a.C_Town [("size" : Str), ("links" : Str)] [.int c, tq qs]]) wb (by omega)
  have lck := lck_ok (a := a) (S := S ++ [.ins a.C_Town [("size" : Str), ("links" : Str)] [.int c, tq qs]]) (body c qs)
  obtain ⟨rest2, K2, _⟩ := K.ext (Ext.one S (.ins a.C_Town [("size" : Str), ("links" : Str)] [.int c, tq qs]))
  refine ⟨_, rest2, ?_, K2⟩
  have l1 : cCall (g_unpack_bytes a) (aCons (cCall (g_encode_town a) (aCons (cMake a.C_Town (g_Town__init a) (aCons (cVar 3) (aCons (cVar 4) aNil))) aNil)) aNil) [x0, .d (.ptr 0), x2, .d (.int c), .d (tq qs), .d (li (body c qs)), x6, x7, x8, x9, x10, x11, x12] S = .ok (li (whole c qs)) (S ++ [.ins a.C_Town [("size" : Str), ("links" : Str)] [.int c, tq qs]]) := by
    simp only [ev_call, ev_cons, ev_make, ev_var, List.getElem?_cons_succ, List.getElem?_cons_zero, ev_slot, R.bind, ev_nil, ini, enc, unp]
  have l2 := addL (z := [x0, .d (.ptr 0), x2, .d (.int c), .d (tq qs), .d (li (body c qs)), x6, x7, x8, x9, x10, x11, x12]) (S := S ++ [.ins a.C_Town [("size" : Str), ("links" : Str)] [.int c, tq qs]]) (S1 := S ++ [.ins a.C_Town [("size" : Str), ("links" : Str)] [.int c, tq qs]]) (S2 := S ++ [.ins a.C_Town [("size" : Str), ("links" : Str)] [.int c, tq qs]]) (ca := cVar 5) (cb := cCall (g_law_checksum a) (aCons (cVar 5) aNil)) (xs := body c qs) (ys := ck (body c qs)) (by simp) (by simp only [ev_call, ev_cons, ev_var, List.getElem?_cons_succ, List.getElem?_cons_zero, ev_slot, R.bind, ev_nil, lck]) (by simp only [ck, List.length_cons, List.length_nil]; omega)
  have q := eq_li true (whole c qs) (S ++ [.ins a.C_Town [("size" : Str), ("links" : Str)] [.int c, tq qs]])
  unfold q_law_9
  rw [ev_sif, ev_tB, ev_c2, l1]
  simp only [R.bind, l2]
  rw [show oEq true (li (whole c qs)) (li (body c qs ++ ck (body c qs))) (S ++ [.ins a.C_Town [("size" : Str), ("links" : Str)] [.int c, tq qs]]) = .ok (.bl (!true)) (S ++ [.ins a.C_Town [("size" : Str), ("links" : Str)] [.int c, tq qs]]) from q]
  rfl
/-- from the octets on -/
theorem tail_ok (hne : a.C_InvalidData ≠ a.C_InvalidCount) {rest S : Store} (K : Kp ns rest S) (os : List Int) (ho : areB os) (hlen : os.length ≤ 310) (x0 x2 x3 x4 x5 x6 x8 x9 x10 x11 x12 : SV) :
    ∃ S' rest' y8 y9 y10 y11 y12, sSeq (q_law_12 a) (sSeq (q_law_13 a) (sSeq (q_law_14 a) (sSeq (q_law_15 a) (q_law_22 a)))) [x0, .d (.ptr 0), x2, x3, x4, x5, x6, .d (li os), x8, x9, x10, x11, x12] S = .nx [x0, .d (.ptr 0), x2, x3, x4, x5, x6, .d (li os), y8, y9, y10, y11, y12] S' ∧ Kp ns rest' S' := by
  have pk := pack_ok (a := a) (S := S ++ [wD os 0 none]) ho (by omega)
  have p12 : q_law_12 a [x0, .d (.ptr 0), x2, x3, x4, x5, x6, .d (li os), x8, x9, x10, x11, x12] S = .nx [x0, .d (.ptr 0), x2, x3, x4, x5, x6, .d (li os), .d (.ptr S.length), .d (.byt (byteArr os)), x10, x11, x12] (S ++ [wD os 0 none]) := by
    have dsp : cDisp (pCons (cK (.str ("octets" : Str))) (cVar 7) (pCons (cK (.str ("at" : Str))) (cK (.int 0)) (pCons (cK (.str ("bad" : Str))) (cK .non) pNil))) [x0, .d (.ptr 0), x2, x3, x4, x5, x6, .d (li os), x8, x9, x10, x11, x12] S = .ok (.ptr S.length) (S ++ [wD os 0 none]) := by
      rw [ev_disp]
      simp only [ev_pcons, ev_k, ev_var, List.getElem?_cons_succ, List.getElem?_cons_zero, ev_slot, R.bind, ev_pnil, keysOf, dKey]
      rw [if_pos (by simp)]
      have m0 : ¬ (kO ∈ ([] : List Key)) := by simp
      have m1 : ¬ (kA ∈ ([kO] : List Key)) := by decide +kernel
      have m2 : ¬ (kB ∈ ([kO, kA] : List Key)) := by decide +kernel
      have e : dMerge [] [] [(kO, li os), (kA, D.int 0), (kB, D.non)] = ([kO, kA, kB], [li os, .int 0, .non]) := by
        simp only [dMerge, dPut, if_neg m0, List.nil_append, if_neg m1, List.cons_append, if_neg m2]
      rw [e]
      rfl
    unfold q_law_12
    rw [ev_asg, ev_tup, ev_cons, dsp]
    simp only [R.bind, ev_cons, ev_call, ev_var, List.getElem?_cons_succ, List.getElem?_cons_zero, ev_slot, ev_nil, pk]
    simp
  have hw : S.length < (S ++ [MO.lst []]).length := by simp
  have wsE : ∀ i b, ws os S.length (S ++ [MO.lst []]) i b = S ++ [wD os i b] := fun i b => by
    rw [ws, List.set_append_right _ _ (Nat.le_refl _)]; simp
  obtain ⟨tr, _⟩ := tS_run (a := a) (o := os) (S := S ++ [MO.lst []]) hw hlen
  simp only [wt, wsE] at tr
  have p13 : q_law_13 a [x0, .d (.ptr 0), x2, x3, x4, x5, x6, .d (li os), .d (.ptr S.length), .d (.byt (byteArr os)), x10, x11, x12] (S ++ [wD os 0 none]) = .nx [x0, .d (.ptr 0), x2, x3, x4, x5, x6, .d (li os), .d (.ptr S.length), .d (.byt (byteArr os)), .d (.tup [.int (tS os).1.1, tq (tS os).1.2]), x11, x12] (S ++ [wD os (tS os).2.1 (tS os).2.2]) := by
    unfold q_law_13
    rw [ev_set, ev_call]
    simp only [ev_cons, ev_var, List.getElem?_cons_succ, List.getElem?_cons_zero, ev_slot, R.bind, ev_nil, tr, ev_do]
    rfl
  obtain ⟨rest2, K2, _⟩ := K.ext (Ext.one S (wD os (tS os).2.1 (tS os).2.2))
  have dk := dec_ok (a := a) (o := os) (S := S ++ [wD os (tS os).2.1 (tS os).2.2]) hlen ho
  have rel := tS_rel (o := os)
  have hcap : ∀ x11', capZ [x0, .d (.ptr 0), x2, x3, x4, x5, x6, .d (li os), .d (.ptr S.length), .d (.byt (byteArr os)), .d (.tup [.int (tS os).1.1, tq (tS os).1.2]), x11', x12] [9] = [.d (.byt (byteArr os))] := fun _ => rfl
  have p22 : ∀ (y11 : SV) (S' : Store), ∃ y12, q_law_22 a [x0, .d (.ptr 0), x2, x3, x4, x5, x6, .d (li os), .d (.ptr S.length), .d (.byt (byteArr os)), .d (.tup [.int (tS os).1.1, tq (tS os).1.2]), y11, x12] S' = .nx [x0, .d (.ptr 0), x2, x3, x4, x5, x6, .d (li os), .d (.ptr S.length), .d (.byt (byteArr os)), .d (.tup [.int (tS os).1.1, tq (tS os).1.2]), y11, y12] S' := fun y11 S' => by
    obtain ⟨y12, h⟩ := wr_ok (a := a) x0 (.d (.ptr 0)) x2 x3 x4 x5 x6 (.d (li os)) (.d (.ptr S.length)) (.d (.byt (byteArr os))) (.d (.tup [.int (tS os).1.1, tq (tS os).1.2])) y11 S' [-1, 256] x12 (by
      intro v hv
      simp only [List.mem_cons, List.not_mem_nil, or_false] at hv
      rcases hv with rfl | rfl
      · exact .inl (by decide)
      · exact .inr (by decide))
    refine ⟨y12, ?_⟩
    unfold q_law_22
    rw [ev_for, show CL.iSeq (cTup (aCons (c2 oSub (cK (.int 0)) (cK (.int 1))) (aCons (cK (.int 256)) aNil))) [x0, .d (.ptr 0), x2, x3, x4, x5, x6, .d (li os), .d (.ptr S.length), .d (.byt (byteArr os)), .d (.tup [.int (tS os).1.1, tq (tS os).1.2]), y11, x12] S' = .ok ([-1, 256].map D.int) S' by simp [oSub], ev_do]
    exact h
  have fin : ∀ (d : D) (S' : Store), Ext (S ++ [wD os (tS os).2.1 (tS os).2.2]) S' → cLamN 2 (fun ac => cb_law_outcome a ac) 0 (cCall (g_decode_town a) (aCons (cVar 0) aNil)) [9] [] [x0, .d (.ptr 0), x2, x3, x4, x5, x6, .d (li os), .d (.ptr S.length), .d (.byt (byteArr os)), .d (.tup [.int (tS os).1.1, tq (tS os).1.2]), x11, x12] (S ++ [wD os (tS os).2.1 (tS os).2.2]) = .ok d S' →
      q_law_15 a [x0, .d (.ptr 0), x2, x3, x4, x5, x6, .d (li os), .d (.ptr S.length), .d (.byt (byteArr os)), .d (.tup [.int (tS os).1.1, tq (tS os).1.2]), .d d, x12] S' = .nx [x0, .d (.ptr 0), x2, x3, x4, x5, x6, .d (li os), .d (.ptr S.length), .d (.byt (byteArr os)), .d (.tup [.int (tS os).1.1, tq (tS os).1.2]), .d d, x12] S' →
      ∃ S' rest' y8 y9 y10 y11 y12, sSeq (q_law_12 a) (sSeq (q_law_13 a) (sSeq (q_law_14 a) (sSeq (q_law_15 a) (q_law_22 a)))) [x0, .d (.ptr 0), x2, x3, x4, x5, x6, .d (li os), x8, x9, x10, x11, x12] S = .nx [x0, .d (.ptr 0), x2, x3, x4, x5, x6, .d (li os), y8, y9, y10, y11, y12] S' ∧ Kp ns rest' S' := fun d S' X e14 e15 => by
    obtain ⟨rest3, K3, _⟩ := K2.ext X
    obtain ⟨y12, e22⟩ := p22 (.d d) S'
    refine ⟨S', rest3, .d (.ptr S.length), .d (.byt (byteArr os)), .d (.tup [.int (tS os).1.1, tq (tS os).1.2]), .d d, y12, ?_, K3⟩
    have p14 : q_law_14 a [x0, .d (.ptr 0), x2, x3, x4, x5, x6, .d (li os), .d (.ptr S.length), .d (.byt (byteArr os)), .d (.tup [.int (tS os).1.1, tq (tS os).1.2]), x11, x12] (S ++ [wD os (tS os).2.1 (tS os).2.2]) = .nx [x0, .d (.ptr 0), x2, x3, x4, x5, x6, .d (li os), .d (.ptr S.length), .d (.byt (byteArr os)), .d (.tup [.int (tS os).1.1, tq (tS os).1.2]), .d d, x12] S' := by
      unfold q_law_14
      rw [ev_set, e14, ev_do]; rfl
    rw [seq_nx p12, seq_nx p13, seq_nx p14, seq_nx e15, e22]
  have act : ∀ S', cCall (g_decode_town a) (aCons (cVar 0) aNil) [.d (.byt (byteArr os))] S' = g_decode_town a [.byt (byteArr os)] S' := fun S' => by simp
  have wAt : ∀ S', Ext (S ++ [wD os (tS os).2.1 (tS os).2.2]) S' → ∀ (y11 : SV), c2 oDGet (cVar 8) (cK (.str ("bad" : Str))) [x0, .d (.ptr 0), x2, x3, x4, x5, x6, .d (li os), .d (.ptr S.length), .d (.byt (byteArr os)), .d (.tup [.int (tS os).1.1, tq (tS os).1.2]), y11, x12] S' = .ok (bD (tS os).2.2) S' := fun S' X y11 => by
    have at_ : S'[S.length]? = some (wD os (tS os).2.1 (tS os).2.2) := X.at (by simp)
    simp only [ev_c2, ev_var, List.getElem?_cons_succ, List.getElem?_cons_zero, ev_slot, R.bind, ev_k, oDGet, dctAt, at_, dKey, dGet, if_neg n_ob, if_neg n_ab, if_true]
  cases e : rdTown os with
  | bad e2 =>
    rw [e] at dk rel
    obtain ⟨S', dk, X⟩ := dk
    obtain ⟨p, i', rel⟩ := rel
    have hb : (tS os).2.2 = some (e2 : Int) := by rw [rel]
    refine fin (dData e2) S' X (lam_out (np := 0) (out_data hne ?_)) ?_
    · rw [lamG_at (np := 0) (ds := []) rfl, hcap]
      simp only [List.map_nil, List.nil_append]
      rw [act]; exact dk
    · have w1 := wAt S' X (.d (dData e2))
      rw [hb] at w1
      have q := eq_data true e2 S'
      unfold q_law_15
      rw [ev_sif, ev_tB, ev_c2, w1]
      simp only [R.bind, ev_k, xNotN, oNotN, bD, isNon, Bool.not_false, ev_do, if_true]
      unfold q_law_16
      rw [ev_sif, ev_tB, ev_c2]
      simp only [ev_var, List.getElem?_cons_succ, List.getElem?_cons_zero, ev_slot, R.bind, ev_tup, ev_cons, ev_k, w1, ev_nil, bD]
      rw [if_pos (by simp)]
      simp only [R.bind, show D.tup [.str ("InvalidData" : Str), .int (e2 : Int)] = dData e2 from rfl, q]
      rfl
  | ok p i =>
    obtain ⟨c, qs⟩ := p
    rw [e] at dk rel
    obtain ⟨S', j, dk, X, ta⟩ := dk
    simp only at rel
    have hb : (tS os).2.2 = none := by rw [rel]
    have hp : (tS os).1 = (c, qs) := by rw [rel]
    obtain ⟨hos, hc, hql, hqL⟩ := town_back ho e
    refine fin (.ptr j) S' X (lam_out (np := 0) (out_ok ?_)) ?_
    · rw [lamG_at (np := 0) (ds := []) rfl, hcap]
      simp only [List.map_nil, List.nil_append]
      rw [act]; exact dk
    · have w1 := wAt S' X (.d (.ptr j))
      rw [hb] at w1
      have enc := enc_ok (a := a) ta ⟨by omega, by omega⟩ (fun q hq => isL_W (by omega) (hqL q hq)) (by omega)
      rw [← hos] at enc
      have cl : classOf S' (.ptr j) = some (a.C_Town, [("size" : Str), ("links" : Str)]) := by simp [classOf, show S'[j]? = _ from ta]
      have t1 := town_count a ta
      have t2 := town_links a ta
      have q := eq_town true c qs S'
      have hp1 : (tS os).1.1 = c := by rw [hp]
      have hp2 : (tS os).1.2 = qs := by rw [hp]
      have isi : bIsT "tuple" (kio_tuple a) [.ptr j, .ty "tuple"] S' = .ok (.bl false) S' := by
        simp only [bIsT, if_true, cl]
        simp [kio_tuple]
      unfold q_law_15
      rw [ev_sif, ev_tB, ev_c2, w1]
      simp only [R.bind, ev_k, xNotN, oNotN, bD, isNon, Bool.not_true, ev_do, Bool.false_eq_true, if_false]
      unfold q_law_18
      rw [hp1, hp2]
      have t18 : CL.tOr (tB (cApp (bIsT "tuple" (kio_tuple a)) (aCons (cVar 11) (aCons (cK (.ty "tuple")) aNil)))) (tB (c2 (oEq true) (cTup (aCons (cProp a.C_Town (gNox (g_Town_place_count a)) (cVar 11)) (aCons (cProp a.C_Town (gNox (g_Town_bridges a)) (cVar 11)) aNil))) (cVar 10))) [x0, .d (.ptr 0), x2, x3, x4, x5, x6, .d (li os), .d (.ptr S.length), .d (.byt (byteArr os)), .d (.tup [.int c, tq qs]), .d (.ptr j), x12] S' = .ok false S' := by
        rw [ev_tOr, ev_tB, ev_app]
        simp only [ev_cons, ev_var, List.getElem?_cons_succ, List.getElem?_cons_zero, ev_slot, R.bind, ev_k, ev_nil, isi, Bool.false_eq_true, if_false]
        rw [ev_tB, ev_c2, ev_tup]
        simp only [ev_cons, ev_prop, ev_nox, ev_var, List.getElem?_cons_succ, List.getElem?_cons_zero, ev_slot, R.bind, cl, if_true, t1, t2, ev_nil]
        rw [if_pos (by simp)]
        simp only [R.bind, q]
        rfl
      rw [ev_sif, t18, ev_do, if_neg (by simp)]
      unfold q_law_20
      rw [ev_sif, ev_tB, ev_c2]
      simp only [ev_call, ev_cons, ev_var, List.getElem?_cons_succ, List.getElem?_cons_zero, ev_slot, R.bind, ev_nil, enc, oEqB]
      simp
omit hl in
theorem oEq_neg {x y : D} {S : Store} {b : Bool} (h : oEq false x y S = .ok (.bl b) S) : oEq true x y S = .ok (.bl (!b)) S := by
  unfold oEq at h ⊢
  split at h
  · split at h
    · rename_i g
      rw [if_pos g]
      simp only [Bool.false_eq_true, if_false, R.ok.injEq, D.bl.injEq, and_true] at h
      simp [h]
    · cases h
  · cases h
theorem turn_ok (hne : a.C_InvalidData ≠ a.C_InvalidCount) {rest S : Store} (K : Kp ns rest S) (x0 : SV) (turn : Int) (x3 x4 x5 x6 x7 x8 x9 x10 x11 x12 : SV) :
    ∃ S' rest' y3 y4 y5 y6 y7 y8 y9 y10 y11 y12, b_law_2 a [x0, .d (.ptr 0), .d (.int turn), x3, x4, x5, x6, x7, x8, x9, x10, x11, x12] S = .nx [x0, .d (.ptr 0), .d (.int turn), y3, y4, y5, y6, y7, y8, y9, y10, y11, y12] S' ∧ Kp ns rest' S' := by
  obtain ⟨r1, S1, d1, K1, r10, r11⟩ := draw a K hl 12 (by decide) (by decide)
  have p3 : q_law_3 a [x0, .d (.ptr 0), .d (.int turn), x3, x4, x5, x6, x7, x8, x9, x10, x11, x12] S = .nx [x0, .d (.ptr 0), .d (.int turn), .d (.int (1 + r1)), x4, x5, x6, x7, x8, x9, x10, x11, x12] S1 := by
    simp [q_law_3, d1, oAdd]
  obtain ⟨most, S2, hm, d2, K2⟩ := pick2 (a := a) hl K1 4 24 [x0, .d (.ptr 0), .d (.int turn), .d (.int (1 + r1)), x4, x5, x6, x7, x8, x9, x10, x11, x12] 1 rfl (cK (.int 4)) (cK (.int 24)) (by simp) (by simp)
  obtain ⟨qs, S3, d3, K3, hql, hq⟩ := brs_ok (a := a) hl K2 (1 + r1) most 1000000000000000001 (by omega) (by omega) (by omega) (by omega) (by decide) (by decide)
  have p4 : q_law_4 a [x0, .d (.ptr 0), .d (.int turn), .d (.int (1 + r1)), x4, x5, x6, x7, x8, x9, x10, x11, x12] S1 = .nx [x0, .d (.ptr 0), .d (.int turn), .d (.int (1 + r1)), .d (tq qs), x5, x6, x7, x8, x9, x10, x11, x12] S3 := by
    have hi : c2 oAdd (c2 oPow (cK (.int 10)) (cK (.int 18))) (cK (.int 1)) [x0, .d (.ptr 0), .d (.int turn), .d (.int (1 + r1)), x4, x5, x6, x7, x8, x9, x10, x11, x12] S2 = .ok (.int 1000000000000000001) S2 := by simp [oPow, pow18, oAdd]
    unfold q_law_4
    rw [ev_set, ev_call]
    simp only [ev_cons, ev_var, List.getElem?_cons_succ, List.getElem?_cons_zero, ev_slot, R.bind, d2, hi, ev_nil, d3, ev_do]
    rfl
  have hL : ∀ q ∈ qs, isL (1 + r1) q = true := fun q h => (hq q h).isL (by decide)
  have hW : ∀ q ∈ qs, isW q := fun q h => isL_W (by omega) (hL q h)
  have hlen : qs.length ≤ 24 := by omega
  have lb := lbody_ok (a := a) (S := S3) (1 + r1) hW (by omega)
  have p5 : q_law_5 a [x0, .d (.ptr 0), .d (.int turn), .d (.int (1 + r1)), .d (tq qs), x5, x6, x7, x8, x9, x10, x11, x12] S3 = .nx [x0, .d (.ptr 0), .d (.int turn), .d (.int (1 + r1)), .d (tq qs), .d (li (body (1 + r1) qs)), x6, x7, x8, x9, x10, x11, x12] S3 := by
    unfold q_law_5
    rw [ev_set, ev_call]
    simp only [ev_cons, ev_var, List.getElem?_cons_succ, List.getElem?_cons_zero, ev_slot, R.bind, ev_nil, lb, ev_do]
    rfl
  have t6 : CL.tAnd (tB (c2 (oEq false) (cVar 2) (cK (.int 0)))) (tB (c2 (oEq true) (cVar 4) (cTup aNil))) [x0, .d (.ptr 0), .d (.int turn), .d (.int (1 + r1)), .d (tq qs), .d (li (body (1 + r1) qs)), x6, x7, x8, x9, x10, x11, x12] S3 = .ok (decide (turn = 0) && !qs.isEmpty) S3 := by
    have q := oEq_neg (oEq_nil qs S3)
    by_cases h : turn = 0
    · simp [h, q]
    · simp [h]
  obtain ⟨b, S4, rest4, y6, p6, K4, hb, hb1, hb2⟩ : ∃ (b : List Int) (S4 rest4 : Store) (y6 : SV), q_law_6 a [x0, .d (.ptr 0), .d (.int turn), .d (.int (1 + r1)), .d (tq qs), .d (li (body (1 + r1) qs)), x6, x7, x8, x9, x10, x11, x12] S3 = .nx [x0, .d (.ptr 0), .d (.int turn), .d (.int (1 + r1)), .d (tq qs), .d (li b), y6, x7, x8, x9, x10, x11, x12] S4 ∧ Kp ns rest4 S4 ∧ areB b ∧ 1 ≤ b.length ∧ b.length ≤ 300 := by
    have bb : ∀ qs' : List Quad, (∀ q ∈ qs', isW q) → qs'.length ≤ 24 → areB (body (1 + r1) qs') ∧ 1 ≤ (body (1 + r1) qs').length ∧ (body (1 + r1) qs').length ≤ 300 := fun qs' h1 h2 => by
      have := body_len (c := 1 + r1) h1
      exact ⟨body_b ⟨by omega, by omega⟩ (by omega) h1, by simp [body], by omega⟩
    cases hqs : qs with
    | cons q0 qt =>
      by_cases h : turn = 0
      · obtain ⟨rf, S5, d5, K5, rf0, rf1⟩ := draw a K3 hl 99 (by decide) (by decide)
        have hW' : ∀ q ∈ (⟨q0.q1, q0.q2, q0.q3, 1000000000000000001 + rf⟩ : Quad) :: qt, isW q := fun q hm => by
          rcases List.mem_cons.mp hm with rfl | hm
          · have := hW q0 (by rw [hqs]; exact List.mem_cons_self)
            obtain ⟨w1, w2, w3, w4, w5⟩ := this
            exact ⟨w1, w2, w3, by dsimp only; omega, by dsimp only; omega⟩
          · exact hW q (by rw [hqs]; exact List.mem_cons_of_mem _ hm)
        have hl' : qt.length + 1 ≤ 24 := by rw [hqs] at hlen; simpa using hlen
        obtain ⟨b1, b2, b3⟩ := bb ((⟨q0.q1, q0.q2, q0.q3, 1000000000000000001 + rf⟩ : Quad) :: qt) hW' (by simpa using hl')
        refine ⟨body (1 + r1) ((⟨q0.q1, q0.q2, q0.q3, 1000000000000000001 + rf⟩ : Quad) :: qt), S5, rest, .d (qd ⟨q0.q1, q0.q2, q0.q3, 1000000000000000001 + rf⟩), ?_, K5, b1, b2, b3⟩
        rw [hqs] at t6
        have lb2 := lbody_ok (a := a) (S := S5) (1 + r1) hW' (by simp; omega)
        have p7 : q_law_7 a [x0, .d (.ptr 0), .d (.int turn), .d (.int (1 + r1)), .d (tq (q0 :: qt)), .d (li (body (1 + r1) (q0 :: qt))), x6, x7, x8, x9, x10, x11, x12] S3 = .nx [x0, .d (.ptr 0), .d (.int turn), .d (.int (1 + r1)), .d (tq (q0 :: qt)), .d (li (body (1 + r1) (q0 :: qt))), .d (qd ⟨q0.q1, q0.q2, q0.q3, 1000000000000000001 + rf⟩), x7, x8, x9, x10, x11, x12] S5 := by
          have cu : cutL [D.int q0.q1, .int q0.q2, .int q0.q3, .int q0.q4] none (some 3) = [D.int q0.q1, .int q0.q2, .int q0.q3] := rfl
          simp [q_law_7, tq, qd, oIx, itemsOf, oCut, cu, d5, oPow, pow18, oAdd]
        have p8 : q_law_8 a [x0, .d (.ptr 0), .d (.int turn), .d (.int (1 + r1)), .d (tq (q0 :: qt)), .d (li (body (1 + r1) (q0 :: qt))), .d (qd ⟨q0.q1, q0.q2, q0.q3, 1000000000000000001 + rf⟩), x7, x8, x9, x10, x11, x12] S5 = .nx [x0, .d (.ptr 0), .d (.int turn), .d (.int (1 + r1)), .d (tq (q0 :: qt)), .d (li (body (1 + r1) ((⟨q0.q1, q0.q2, q0.q3, 1000000000000000001 + rf⟩ : Quad) :: qt))), .d (qd ⟨q0.q1, q0.q2, q0.q3, 1000000000000000001 + rf⟩), x7, x8, x9, x10, x11, x12] S5 := by
          have cu : cutL ((q0 :: qt).map qd) (some 1) none = qt.map qd := by
            unfold cutL
            rw [show (1 : Int) = ((1 : Nat) : Int) from rfl, HT.sIx_nat, HT.sIx_none]
            simp
            exact List.take_of_length_le (by simp)
          have e : c2 oAdd (cTup (aCons (cVar 6) aNil)) (cCut (cVar 4) (oSome (cK (.int 1))) oNone) [x0, .d (.ptr 0), .d (.int turn), .d (.int (1 + r1)), .d (tq (q0 :: qt)), .d (li (body (1 + r1) (q0 :: qt))), .d (qd ⟨q0.q1, q0.q2, q0.q3, 1000000000000000001 + rf⟩), x7, x8, x9, x10, x11, x12] S5 = .ok (tq ((⟨q0.q1, q0.q2, q0.q3, 1000000000000000001 + rf⟩ : Quad) :: qt)) S5 := by
            rw [ev_c2, ev_tup]
            simp only [ev_cons, ev_var, List.getElem?_cons_succ, List.getElem?_cons_zero, ev_slot, R.bind, ev_nil, ev_cut, ev_none, ev_some, ev_k, tq, oCut, cu]
            rw [if_pos (by simp)]
            simp only [R.bind, oAdd]
            rw [if_pos (by simp; omega)]
            simp
          unfold q_law_8
          rw [ev_set, ev_call]
          simp only [ev_cons, ev_var, List.getElem?_cons_succ, List.getElem?_cons_zero, ev_slot, R.bind, e, ev_nil, lb2, ev_do]
          rfl
        unfold q_law_6
        rw [ev_sif, t6, ev_do, if_pos (by simp [h]), seq_nx p7, p8]
      · have ib := bb qs hW hlen
        have := q9_ok (a := a) K3 (1 + r1) ⟨by omega, by omega⟩ hL hlen x0 (.d (.int turn)) x6 x7 x8 x9 x10 x11 x12
        obtain ⟨S5, rest5, e9, K5⟩ := this
        refine ⟨body (1 + r1) qs, S5, rest5, x6, ?_, K5, ib⟩
        rw [← hqs]
        unfold q_law_6
        rw [ev_sif, t6, ev_do, if_neg (by simp [h]), e9]
    | nil =>
      have ib := bb qs hW hlen
      have := q9_ok (a := a) K3 (1 + r1) ⟨by omega, by omega⟩ hL hlen x0 (.d (.int turn)) x6 x7 x8 x9 x10 x11 x12
      obtain ⟨S5, rest5, e9, K5⟩ := this
      refine ⟨body (1 + r1) qs, S5, rest5, x6, ?_, K5, ib⟩
      rw [← hqs]
      unfold q_law_6
      rw [ev_sif, t6, ev_do, if_neg (by simp [hqs]), e9]
  obtain ⟨os, S6, d6, K6, ho, hol⟩ := dmg_ok (a := a) hl K4 b hb hb1 hb2
  have p11 : q_law_11 a [x0, .d (.ptr 0), .d (.int turn), .d (.int (1 + r1)), .d (tq qs), .d (li b), y6, x7, x8, x9, x10, x11, x12] S4 = .nx [x0, .d (.ptr 0), .d (.int turn), .d (.int (1 + r1)), .d (tq qs), .d (li b), y6, .d (li os), x8, x9, x10, x11, x12] S6 := by
    unfold q_law_11
    rw [ev_set, ev_call]
    simp only [ev_cons, ev_var, List.getElem?_cons_succ, List.getElem?_cons_zero, ev_slot, R.bind, ev_nil, d6, ev_do]
    rfl
  obtain ⟨S7, rest7, z8, z9, z10, z11, z12, e7, K7⟩ := tail_ok (a := a) hl hne K6 os ho hol x0 (.d (.int turn)) (.d (.int (1 + r1))) (.d (tq qs)) (.d (li b)) y6 x8 x9 x10 x11 x12
  refine ⟨S7, rest7, .d (.int (1 + r1)), .d (tq qs), .d (li b), y6, .d (li os), z8, z9, z10, z11, z12, ?_, K7⟩
  unfold b_law_2
  rw [seq_nx p3, seq_nx p4, seq_nx p5, seq_nx p6, seq_nx p11, e7]
theorem turns_ok (hne : a.C_InvalidData ≠ a.C_InvalidCount) (x0 : SV) : ∀ (ds : List Int) (rest S : Store) (x2 x3 x4 x5 x6 x7 x8 x9 x10 x11 x12 : SV), Kp ns rest S →
    ∃ S' rest' y2 y3 y4 y5 y6 y7 y8 y9 y10 y11 y12, loop (gN 2) (b_law_2 a) (ds.map D.int) [x0, .d (.ptr 0), x2, x3, x4, x5, x6, x7, x8, x9, x10, x11, x12] S = .nx [x0, .d (.ptr 0), y2, y3, y4, y5, y6, y7, y8, y9, y10, y11, y12] S' ∧ Kp ns rest' S'
  | [], rest, S, x2, x3, x4, x5, x6, x7, x8, x9, x10, x11, x12, K => ⟨S, rest, x2, x3, x4, x5, x6, x7, x8, x9, x10, x11, x12, rfl, K⟩
  | d :: ds, rest, S, x2, x3, x4, x5, x6, x7, x8, x9, x10, x11, x12, K => by
    obtain ⟨S1, r1, y3, y4, y5, y6, y7, y8, y9, y10, y11, y12, e1, K1⟩ := turn_ok hl hne K x0 d x3 x4 x5 x6 x7 x8 x9 x10 x11 x12
    obtain ⟨S2, r2, w2, w3, w4, w5, w6, w7, w8, w9, w10, w11, w12, e2, K2⟩ := turns_ok hne x0 ds r1 S1 (.d (.int d)) y3 y4 y5 y6 y7 y8 y9 y10 y11 y12 K1
    refine ⟨S2, r2, w2, w3, w4, w5, w6, w7, w8, w9, w10, w11, w12, ?_, K2⟩
    rw [List.map_cons, loop_cons (z1 := [x0, .d (.ptr 0), .d (.int d), x3, x4, x5, x6, x7, x8, x9, x10, x11, x12]) rfl e1]
    exact e2
end
theorem law_true (a : Ad) (e0 : a.C_InvalidData ≠ a.C_InvalidCount) (ns : List Int) (hl : ns.length ≤ 63) : ∃ S', g_law a [.scr ns] [] = .ok (.bl true) S' := by
  obtain ⟨m, es⟩ := start_ok (a := a) (ns := ns)
  have K0 : Kp ns [] [dst ns 0 m 0] := ⟨0, m, 0, rfl, by decide⟩
  obtain ⟨S6, r6, y2, y3, y4, y5, y6, y7, y8, y9, y10, y11, y12, e6, K6⟩ := turns_ok (a := a) hl e0 (.d (.scr ns)) [0, 1, 2, 3, 4, 5] [] [dst ns 0 m 0] .u .u .u .u .u .u .u .u .u .u .u K0
  have p1 : q_law_1 a [.d (.scr ns), .u, .u, .u, .u, .u, .u, .u, .u, .u, .u, .u, .u] [] = .nx [.d (.scr ns), .d (.ptr 0), .u, .u, .u, .u, .u, .u, .u, .u, .u, .u, .u] [dst ns 0 m 0] := by simp [q_law_1, es]
  have p2 : q_law_2 a [.d (.scr ns), .d (.ptr 0), .u, .u, .u, .u, .u, .u, .u, .u, .u, .u, .u] [dst ns 0 m 0] = .nx [.d (.scr ns), .d (.ptr 0), y2, y3, y4, y5, y6, y7, y8, y9, y10, y11, y12] S6 := by
    have it : CL.iRange1 (cK (.int 6)) [.d (.scr ns), .d (.ptr 0), .u, .u, .u, .u, .u, .u, .u, .u, .u, .u, .u] [dst ns 0 m 0] = .ok ([0, 1, 2, 3, 4, 5].map D.int) [dst ns 0 m 0] := iRange1_nat (n := 6) rfl (by decide)
    unfold q_law_2
    rw [ev_for, it, ev_do]
    exact e6
  refine ⟨S6, run_rt ?_⟩
  show c_law a [.d (.scr ns), .u, .u, .u, .u, .u, .u, .u, .u, .u, .u, .u, .u] [] = _
  unfold c_law
  rw [seq_nx p1, seq_nx p2]
  simp
end Law
namespace Law
open PySem PySem.Spec PyProof.Rows L2 CL
section
variable [TheK]
abbrev lamNames : List Str := [("law" : Str)]
theorem all_mk {l : PySem.W.OpenLaw} {w : World} {mg : Str → Option Value} {fa : Addr} {h : Heap} (KX : TheK.K.In h) (G : h.Ns mainGlobals mg) (hfa : mg "law" = some (.ref fa)) (own : ∀ y ∈ lamNames, ∀ f, mg y = some (.ref f) → LamX.OwnTab TheK.K f h)
    {ia0 : Addr}
    {ic0 : Addr}
    {id0 : Addr}
    {ib0 : Addr}
    {ie0 : Addr}
    {jbr : Addr}
    {it0 : Addr} {jnv jdu : Option Addr} {jnw : Array (Option Value)} {jnx jdv jdw jdx jdy : Value} {jcc : Value}
    {iu0 : Addr} {jny jdz : Option Addr} {jnz : Array (Option Value)} {joa jea jeb jec jed : Value} {jcd : Value}
    {iv0 : Addr} {job jee : Option Addr} {joc : Array (Option Value)} {jod jef jeg jeh jei : Value} {jce : Value}
    {iw0 : Addr} {joe jej : Option Addr} {jof : Array (Option Value)} {jog jek jel jem jen : Value} {jcf : Value}
    {ix0 : Addr} {joh jeo : Option Addr} {joi : Array (Option Value)} {joj jep jeq jer jes : Value} {jcg : Value}
    {iy0 : Addr} {jok jet : Option Addr} {jol : Array (Option Value)} {jom jeu jev jew jex : Value} {jch : Value}
    {ij0 : Addr} {jon jey : Option Addr} {joo : Array (Option Value)} {jop jez jfa jfb jfc : Value} {jci : Value}
    {iz0 : Addr} {joq jfd : Option Addr} {jor : Array (Option Value)} {jos jfe jff jfg jfh : Value} {jcj : Value}
    {jba : Addr} {jot jfi : Option Addr} {jou : Array (Option Value)} {jov jfj jfk jfl jfm : Value} {jck : Value}
    {jbb : Addr} {jow jfn : Option Addr} {jox : Array (Option Value)} {joy jfo jfp jfq jfr : Value} {jcl : Value}
    {jbc : Addr} {joz jfs : Option Addr} {jpa : Array (Option Value)} {jpb jft jfu jfv jfw : Value} {jcm : Value}
    {jbd : Addr} {jpc jfx : Option Addr} {jpd : Array (Option Value)} {jpe jfy jfz jga jgb : Value} {jcn : Value}
    {jbe : Addr} {jpf jgc : Option Addr} {jpg : Array (Option Value)} {jph jgd jge jgf jgg : Value} {jco : Value}
    {jbf : Addr} {jpi jgh : Option Addr} {jpj : Array (Option Value)} {jpk jgi jgj jgk jgl : Value} {jcp : Value}
    {jbg : Addr} {jpl jgm : Option Addr} {jpm : Array (Option Value)} {jpn jgn jgo jgp jgq : Value} {jcq : Value}
    {jbh : Addr} {jpo jgr : Option Addr} {jpp : Array (Option Value)} {jpq jgs jgt jgu jgv : Value} {jcr : Value}
    {jbi : Addr} {jpr jgw : Option Addr} {jps : Array (Option Value)} {jpt jgx jgy jgz jha : Value} {jcs : Value}
    {jbj : Addr} {jpu jhb : Option Addr} {jpv : Array (Option Value)} {jpw jhc jhd jhe jhf : Value} {jct : Value}
    {jbk : Addr} {jpx jhg : Option Addr} {jpy : Array (Option Value)} {jpz jhh jhi jhj jhk : Value} {jcu : Value}
    {jbl : Addr} {jqa jhl : Option Addr} {jqb : Array (Option Value)} {jqc jhm jhn jho jhp : Value} {jcv : Value}
    {ik0 : Addr} {jqd jhq : Option Addr} {jqe : Array (Option Value)} {jqf jhr jhs jht jhu : Value} {jcw : Value}
    {il0 : Addr} {jqg jhv : Option Addr} {jqh : Array (Option Value)} {jqi jhw jhx jhy jhz : Value} {jcx : Value}
    {im0 : Addr} {jqj jia : Option Addr} {jqk : Array (Option Value)} {jql jib jic jid jie : Value} {jcy : Value}
    {in0 : Addr} {jqm jif : Option Addr} {jqn : Array (Option Value)} {jqo jig jih jii jij : Value} {jcz : Value}
    {io0 : Addr} {jqp jik : Option Addr} {jqq : Array (Option Value)} {jqr jil jim jin jio : Value} {jda : Value}
    {ip0 : Addr} {jqs jip : Option Addr} {jqt : Array (Option Value)} {jqu jiq jir jis jit : Value} {jdb : Value}
    {jbm : Addr} {jqv jiu : Option Addr} {jqw : Array (Option Value)} {jqx jiv jiw jix jiy : Value} {jdc : Value}
    {ii0 : Addr} {jqy jiz : Option Addr} {jqz : Array (Option Value)} {jra jja jjb jjc jjd : Value} {jbs : Value}
    {jje : Tok}
    {jjf : Tok}
    {jjg : Tok}
    {jbt : Addr} {jrb : List Value}
    {iq0 : Addr} {jrc : List Value}
    {ir0 : Addr} {jrd : List Value}
    {jdd : Tok}
    {jde : Tok}
    {jdf : Tok}
    {jdg : Tok}
    {jdh : Tok}
    {jdi : Tok}
    {jdj : Tok}
    {jbn : Addr} {jre jjh : Option Addr} {jrf : Array (Option Value)} {jrg jji jjj jjk jjl : Value} {jdk : Value}
    {jrh jri : Str} {jrj : Addr} {jrk jbu : List Value} {jrl : List Str} {jrm : List Value} {jrn : Bool} {jro : Option Bool} {jrp : Option Addr} {jrq jrr jrs jrt jru : Option Value}
    {jbo : Addr} {jrv jjm : Option Addr} {jrw : Array (Option Value)} {jrx jjn jjo jjp jjq : Value} {jdl : Value}
    {jry jrz : Str} {jsa : Addr} {jsb jbv : List Value} {jsc : List Str} {jsd : List Value} {jse : Bool} {jsf : Option Bool} {jsg : Option Addr} {jsh jsi jsj jsk jsl : Option Value}
    {ig0 if0 : Addr} {jsm : Option Addr} {ih0 : Array Value} {jsn : Array (Option Value)} {jjr : Str} {jjs : Int} {jjt : Bool} {jju : Int} {jjv jjw jjx : Tok}
    (jso : PySem.W.nsIn TheK.K mainGlobals ("Town" : Str) = some (some (.ref ia0)))
    (jsp : PySem.W.nsIn TheK.K mainGlobals ("InvalidTown" : Str) = some (some (.ref ic0)))
    (jsq : PySem.W.nsIn TheK.K mainGlobals ("InvalidCount" : Str) = some (some (.ref id0)))
    (jsr : PySem.W.nsIn TheK.K mainGlobals ("InvalidData" : Str) = some (some (.ref ib0)))
    (jss : PySem.W.nsIn TheK.K mainGlobals ("TownReader" : Str) = some (some (.ref ie0)))
    (jjy : PySem.W.nsIn TheK.K mainGlobals ("BridgeError" : Str) = some (some (.ref jbr)))
    (jst : PySem.W.nsIn TheK.K mainGlobals ("_law_start" : Str) = some (some (.ref it0)))
    (jjz : TheK.K.lookup it0 = some ⟨jnx, jnv, .func (PySem.W.fnOf ("_law_start" : Str) ("_law_start" : Str) (defArgs (top 24)) (defBody (top 24)) (defScope (top 24)) .none jdv jdw jdx jdu jcc jdy), jnw⟩)
    (jka : PySem.W.codeIn TheK.K jcc ("_law_start" : Str) = true)
    (jkb : PySem.W.keepIn TheK.K (.ref it0) = true)
    (jsu : PySem.W.nsIn TheK.K mainGlobals ("_law_drawn" : Str) = some (some (.ref iu0)))
    (jkc : TheK.K.lookup iu0 = some ⟨joa, jny, .func (PySem.W.fnOf ("_law_drawn" : Str) ("_law_drawn" : Str) (defArgs (top 25)) (defBody (top 25)) (defScope (top 25)) .none jea jeb jec jdz jcd jed), jnz⟩)
    (jkd : PySem.W.codeIn TheK.K jcd ("_law_drawn" : Str) = true)
    (jke : PySem.W.keepIn TheK.K (.ref iu0) = true)
    (jsv : PySem.W.nsIn TheK.K mainGlobals ("_law_bridges" : Str) = some (some (.ref iv0)))
    (jkf : TheK.K.lookup iv0 = some ⟨jod, job, .func (PySem.W.fnOf ("_law_bridges" : Str) ("_law_bridges" : Str) (defArgs (top 28)) (defBody (top 28)) (defScope (top 28)) .none jef jeg jeh jee jce jei), joc⟩)
    (jkg : PySem.W.codeIn TheK.K jce ("_law_bridges" : Str) = true)
    (jkh : PySem.W.keepIn TheK.K (.ref iv0) = true)
    (jsw : PySem.W.nsIn TheK.K mainGlobals ("_law_groups" : Str) = some (some (.ref iw0)))
    (jki : TheK.K.lookup iw0 = some ⟨jog, joe, .func (PySem.W.fnOf ("_law_groups" : Str) ("_law_groups" : Str) (defArgs (top 30)) (defBody (top 30)) (defScope (top 30)) .none jek jel jem jej jcf jen), jof⟩)
    (jkj : PySem.W.codeIn TheK.K jcf ("_law_groups" : Str) = true)
    (jkk : PySem.W.keepIn TheK.K (.ref iw0) = true)
    (jsx : PySem.W.nsIn TheK.K mainGlobals ("_law_body" : Str) = some (some (.ref ix0)))
    (jkl : TheK.K.lookup ix0 = some ⟨joj, joh, .func (PySem.W.fnOf ("_law_body" : Str) ("_law_body" : Str) (defArgs (top 31)) (defBody (top 31)) (defScope (top 31)) .none jep jeq jer jeo jcg jes), joi⟩)
    (jkm : PySem.W.codeIn TheK.K jcg ("_law_body" : Str) = true)
    (jkn : PySem.W.keepIn TheK.K (.ref ix0) = true)
    (jko : TheK.K.lookup iy0 = some ⟨jom, jok, .func (PySem.W.fnOf ("is_bridge" : Str) ("Town.is_bridge" : Str) (defArgs (inClass (top 8) 4)) (defBody (inClass (top 8) 4)) (defScope (inClass (top 8) 4)) .none jeu jev jew jet jch jex), jol⟩)
    (jkp : PySem.W.codeIn TheK.K jch ("Town.is_bridge" : Str) = true)
    (jdm : PySem.W.keepIn TheK.K (.ref iy0) = true)
    (jkq : TheK.K.lookup ij0 = some ⟨jop, jon, .func (PySem.W.fnOf ("__init__" : Str) ("Town.__init__" : Str) (defArgs (inClass (top 8) 3)) (defBody (inClass (top 8) 3)) (defScope (inClass (top 8) 3)) .none jez jfa jfb jey jci jfc), joo⟩)
    (jkr : PySem.W.codeIn TheK.K jci ("Town.__init__" : Str) = true)
    (jks : PySem.W.keepIn TheK.K (.ref ij0) = true)
    (jsy : PySem.W.isFn TheK.K (.ref ij0) = true)
    (jkt : TheK.K.lookup iz0 = some ⟨jos, joq, .func (PySem.W.fnOf ("bridges" : Str) ("Town.bridges" : Str) (defArgs (inClass (top 8) 7)) (defBody (inClass (top 8) 7)) (defScope (inClass (top 8) 7)) .none jfe jff jfg jfd jcj jfh), jor⟩)
    (jku : PySem.W.codeIn TheK.K jcj ("Town.bridges" : Str) = true)
    (jkv : PySem.W.keepIn TheK.K (.ref iz0) = true)
    (jkw : TheK.K.lookup jba = some ⟨jov, jot, .func (PySem.W.fnOf ("place_count" : Str) ("Town.place_count" : Str) (defArgs (inClass (top 8) 6)) (defBody (inClass (top 8) 6)) (defScope (inClass (top 8) 6)) .none jfj jfk jfl jfi jck jfm), jou⟩)
    (jkx : PySem.W.codeIn TheK.K jck ("Town.place_count" : Str) = true)
    (jky : PySem.W.keepIn TheK.K (.ref jba) = true)
    (jsz : PySem.W.nsIn TheK.K mainGlobals ("groups_of" : Str) = some (some (.ref jbb)))
    (jkz : TheK.K.lookup jbb = some ⟨joy, jow, .func (PySem.W.fnOf ("groups_of" : Str) ("groups_of" : Str) (defArgs (top 19)) (defBody (top 19)) (defScope (top 19)) .none jfo jfp jfq jfn jcl jfr), jox⟩)
    (jla : PySem.W.codeIn TheK.K jcl ("groups_of" : Str) = true)
    (jlb : PySem.W.keepIn TheK.K (.ref jbb) = true)
    (jta : PySem.W.nsIn TheK.K mainGlobals ("checksum" : Str) = some (some (.ref jbc)))
    (jlc : TheK.K.lookup jbc = some ⟨jpb, joz, .func (PySem.W.fnOf ("checksum" : Str) ("checksum" : Str) (defArgs (top 18)) (defBody (top 18)) (defScope (top 18)) .none jft jfu jfv jfs jcm jfw), jpa⟩)
    (jld : PySem.W.codeIn TheK.K jcm ("checksum" : Str) = true)
    (jle : PySem.W.keepIn TheK.K (.ref jbc) = true)
    (jtb : PySem.W.nsIn TheK.K mainGlobals ("encode_town" : Str) = some (some (.ref jbd)))
    (jlf : TheK.K.lookup jbd = some ⟨jpe, jpc, .func (PySem.W.fnOf ("encode_town" : Str) ("encode_town" : Str) (defArgs (top 20)) (defBody (top 20)) (defScope (top 20)) .none jfy jfz jga jfx jcn jgb), jpd⟩)
    (jlg : PySem.W.codeIn TheK.K jcn ("encode_town" : Str) = true)
    (jlh : PySem.W.keepIn TheK.K (.ref jbd) = true)
    (jtc : PySem.W.nsIn TheK.K mainGlobals ("unpack_bytes" : Str) = some (some (.ref jbe)))
    (jli : TheK.K.lookup jbe = some ⟨jph, jpf, .func (PySem.W.fnOf ("unpack_bytes" : Str) ("unpack_bytes" : Str) (defArgs (top 17)) (defBody (top 17)) (defScope (top 17)) .none jgd jge jgf jgc jco jgg), jpg⟩)
    (jlj : PySem.W.codeIn TheK.K jco ("unpack_bytes" : Str) = true)
    (jlk : PySem.W.keepIn TheK.K (.ref jbe) = true)
    (jtd : PySem.W.nsIn TheK.K mainGlobals ("_law_checksum" : Str) = some (some (.ref jbf)))
    (jll : TheK.K.lookup jbf = some ⟨jpk, jpi, .func (PySem.W.fnOf ("_law_checksum" : Str) ("_law_checksum" : Str) (defArgs (top 29)) (defBody (top 29)) (defScope (top 29)) .none jgi jgj jgk jgh jcp jgl), jpj⟩)
    (jlm : PySem.W.codeIn TheK.K jcp ("_law_checksum" : Str) = true)
    (jln : PySem.W.keepIn TheK.K (.ref jbf) = true)
    (jte : PySem.W.nsIn TheK.K mainGlobals ("_law_damaged" : Str) = some (some (.ref jbg)))
    (jlo : TheK.K.lookup jbg = some ⟨jpn, jpl, .func (PySem.W.fnOf ("_law_damaged" : Str) ("_law_damaged" : Str) (defArgs (top 35)) (defBody (top 35)) (defScope (top 35)) .none jgn jgo jgp jgm jcq jgq), jpm⟩)
    (jlp : PySem.W.codeIn TheK.K jcq ("_law_damaged" : Str) = true)
    (jlq : PySem.W.keepIn TheK.K (.ref jbg) = true)
    (jtf : PySem.W.nsIn TheK.K mainGlobals ("pack_bytes" : Str) = some (some (.ref jbh)))
    (jlr : TheK.K.lookup jbh = some ⟨jpq, jpo, .func (PySem.W.fnOf ("pack_bytes" : Str) ("pack_bytes" : Str) (defArgs (top 16)) (defBody (top 16)) (defScope (top 16)) .none jgs jgt jgu jgr jcr jgv), jpp⟩)
    (jls : PySem.W.codeIn TheK.K jcr ("pack_bytes" : Str) = true)
    (jlt : PySem.W.keepIn TheK.K (.ref jbh) = true)
    (jtg : PySem.W.nsIn TheK.K mainGlobals ("_law_get" : Str) = some (some (.ref jbi)))
    (jlu : TheK.K.lookup jbi = some ⟨jpt, jpr, .func (PySem.W.fnOf ("_law_get" : Str) ("_law_get" : Str) (defArgs (top 32)) (defBody (top 32)) (defScope (top 32)) .none jgx jgy jgz jgw jcs jha), jps⟩)
    (jlv : PySem.W.codeIn TheK.K jcs ("_law_get" : Str) = true)
    (jlw : PySem.W.keepIn TheK.K (.ref jbi) = true)
    (jth : PySem.W.nsIn TheK.K mainGlobals ("_law_fault" : Str) = some (some (.ref jbj)))
    (jlx : TheK.K.lookup jbj = some ⟨jpw, jpu, .func (PySem.W.fnOf ("_law_fault" : Str) ("_law_fault" : Str) (defArgs (top 33)) (defBody (top 33)) (defScope (top 33)) .none jhc jhd jhe jhb jct jhf), jpv⟩)
    (jly : PySem.W.codeIn TheK.K jct ("_law_fault" : Str) = true)
    (jlz : PySem.W.keepIn TheK.K (.ref jbj) = true)
    (jti : PySem.W.nsIn TheK.K mainGlobals ("_law_read" : Str) = some (some (.ref jbk)))
    (jma : TheK.K.lookup jbk = some ⟨jpz, jpx, .func (PySem.W.fnOf ("_law_read" : Str) ("_law_read" : Str) (defArgs (top 34)) (defBody (top 34)) (defScope (top 34)) .none jhh jhi jhj jhg jcu jhk), jpy⟩)
    (jmb : PySem.W.codeIn TheK.K jcu ("_law_read" : Str) = true)
    (jmc : PySem.W.keepIn TheK.K (.ref jbk) = true)
    (jtj : PySem.W.nsIn TheK.K mainGlobals ("_law_outcome" : Str) = some (some (.ref jbl)))
    (jmd : TheK.K.lookup jbl = some ⟨jqc, jqa, .func (PySem.W.fnOf ("_law_outcome" : Str) ("_law_outcome" : Str) (defArgs (top 27)) (defBody (top 27)) (defScope (top 27)) .none jhm jhn jho jhl jcv jhp), jqb⟩)
    (jme : PySem.W.codeIn TheK.K jcv ("_law_outcome" : Str) = true)
    (jmf : PySem.W.keepIn TheK.K (.ref jbl) = true)
    (jmg : TheK.K.lookup ik0 = some ⟨jqf, jqd, .func (PySem.W.fnOf ("fail" : Str) ("TownReader.fail" : Str) (defArgs (inClass (top 21) 1)) (defBody (inClass (top 21) 1)) (defScope (inClass (top 21) 1)) .none jhr jhs jht jhq jcw jhu), jqe⟩)
    (jmh : PySem.W.codeIn TheK.K jcw ("TownReader.fail" : Str) = true)
    (jdn : PySem.W.keepIn TheK.K (.ref ik0) = true)
    (jmi : TheK.K.lookup il0 = some ⟨jqi, jqg, .func (PySem.W.fnOf ("read" : Str) ("TownReader.read" : Str) (defArgs (inClass (top 21) 2)) (defBody (inClass (top 21) 2)) (defScope (inClass (top 21) 2)) .none jhw jhx jhy jhv jcx jhz), jqh⟩)
    (jmj : PySem.W.codeIn TheK.K jcx ("TownReader.read" : Str) = true)
    (jdo : PySem.W.keepIn TheK.K (.ref il0) = true)
    (jmk : TheK.K.lookup im0 = some ⟨jql, jqj, .func (PySem.W.fnOf ("read_life" : Str) ("TownReader.read_life" : Str) (defArgs (inClass (top 21) 3)) (defBody (inClass (top 21) 3)) (defScope (inClass (top 21) 3)) .none jib jic jid jia jcy jie), jqk⟩)
    (jml : PySem.W.codeIn TheK.K jcy ("TownReader.read_life" : Str) = true)
    (jdp : PySem.W.keepIn TheK.K (.ref im0) = true)
    (jmm : TheK.K.lookup in0 = some ⟨jqo, jqm, .func (PySem.W.fnOf ("read_bridge" : Str) ("TownReader.read_bridge" : Str) (defArgs (inClass (top 21) 4)) (defBody (inClass (top 21) 4)) (defScope (inClass (top 21) 4)) .none jig jih jii jif jcz jij), jqn⟩)
    (jmn : PySem.W.codeIn TheK.K jcz ("TownReader.read_bridge" : Str) = true)
    (jdq : PySem.W.keepIn TheK.K (.ref in0) = true)
    (jmo : TheK.K.lookup io0 = some ⟨jqr, jqp, .func (PySem.W.fnOf ("read_town" : Str) ("TownReader.read_town" : Str) (defArgs (inClass (top 21) 5)) (defBody (inClass (top 21) 5)) (defScope (inClass (top 21) 5)) .none jil jim jin jik jda jio), jqq⟩)
    (jmp : PySem.W.codeIn TheK.K jda ("TownReader.read_town" : Str) = true)
    (jdr : PySem.W.keepIn TheK.K (.ref io0) = true)
    (jmq : TheK.K.lookup ip0 = some ⟨jqu, jqs, .func (PySem.W.fnOf ("__init__" : Str) ("TownReader.__init__" : Str) (defArgs (inClass (top 21) 0)) (defBody (inClass (top 21) 0)) (defScope (inClass (top 21) 0)) .none jiq jir jis jip jdb jit), jqt⟩)
    (jmr : PySem.W.codeIn TheK.K jdb ("TownReader.__init__" : Str) = true)
    (jms : PySem.W.keepIn TheK.K (.ref ip0) = true)
    (jtk : PySem.W.isFn TheK.K (.ref ip0) = true)
    (jtl : PySem.W.nsIn TheK.K mainGlobals ("decode_town" : Str) = some (some (.ref jbm)))
    (jmt : TheK.K.lookup jbm = some ⟨jqx, jqv, .func (PySem.W.fnOf ("decode_town" : Str) ("decode_town" : Str) (defArgs (top 22)) (defBody (top 22)) (defScope (top 22)) .none jiv jiw jix jiu jdc jiy), jqw⟩)
    (jmu : PySem.W.codeIn TheK.K jdc ("decode_town" : Str) = true)
    (jmv : PySem.W.keepIn TheK.K (.ref jbm) = true)
    (jds : PySem.W.nsIn TheK.K mainGlobals ("law" : Str) = some (some (.ref ii0)))
    (jdt : TheK.K.lookup ii0 = some ⟨jra, jqy, .func (PySem.W.fnOf ("law" : Str) ("law" : Str) (defArgs (top 36)) (defBody (top 36)) (defScope (top 36)) .none jja jjb jjc jiz jbs jjd), jqz⟩)
    (jmw : PySem.W.codeIn TheK.K jbs ("law" : Str) = true)
    (jmx : PySem.W.keepIn TheK.K (.ref ii0) = true)
    (jtm : PySem.W.readsIn TheK.K ia0 (.type "type") = true)
    (jtn : PySem.W.specialIn TheK.K (.ref ia0) "__getattribute__" = some (some (.builtin "type.__getattribute__")))
    (jmy : PySem.W.readsIn TheK.K jbr (.type "type") = true)
    (jmz : PySem.W.specialIn TheK.K (.ref jbr) "__getattribute__" = some (some (.builtin "type.__getattribute__")))
    (jto : PySem.W.findCls TheK.K (.ref ia0) (.type "type") ("MAX_PLACES" : Str) = some (.val (.int 12 jje)))
    (jtp : PySem.W.findCls TheK.K (.ref ia0) (.type "type") ("MAX_LIFE" : Str) = some (.val (.int 1000000000000000000 jjf)))
    (jtq : PySem.W.findCls TheK.K (.ref ia0) (.type "type") ("MAX_BRIDGES" : Str) = some (.val (.int 24 jjg)))
    (jtr : PySem.W.findCls TheK.K (.ref ia0) (.type "type") ("is_bridge" : Str) = some (.get (.builtin "staticmethod.__get__") (.ref jbt) .none (.ref ia0)))
    (jts : PySem.W.recIn TheK.K jbt "staticmethod" = some (.ref iy0 :: jrb))
    (jna : PySem.W.plainGet TheK.K ia0 Str.empty = true)
    (jnb : PySem.W.hasDictIn TheK.K ia0 = true)
    (jnc : PySem.W.plainOver TheK.K ia0 = true)
    (jnd : PySem.W.findIn TheK.K (.ref ia0) "__setattr__" = some (some (.builtin "object.__setattr__")))
    (jtt : PySem.W.makesIn TheK.K ia0 = true)
    (jtu : PySem.W.keepIn TheK.K (.ref ia0) = true)
    (jtv : PySem.W.findIn TheK.K (.ref ia0) "__init__" = some (some (.ref ij0)))
    (jtw : PySem.W.plainGet TheK.K ie0 Str.empty = true)
    (jtx : PySem.W.hasDictIn TheK.K ie0 = true)
    (jty : PySem.W.plainOver TheK.K ie0 = true)
    (jtz : PySem.W.findIn TheK.K (.ref ie0) "__setattr__" = some (some (.builtin "object.__setattr__")))
    (jua : PySem.W.makesIn TheK.K ie0 = true)
    (jub : PySem.W.keepIn TheK.K (.ref ie0) = true)
    (juc : PySem.W.findIn TheK.K (.ref ie0) "__init__" = some (some (.ref ip0)))
    (jud : PySem.W.findIn TheK.K (.ref ia0) ("size" : Str) = some none)
    (jue : PySem.W.findIn TheK.K (.ref ia0) ("links" : Str) = some none)
    (jne : PySem.W.findIn TheK.K (.ref ib0) ("offset" : Str) = some none)
    (juf : PySem.W.findIn TheK.K (.ref ie0) ("octets" : Str) = some none)
    (jug : PySem.W.findIn TheK.K (.ref ie0) ("cursor" : Str) = some none)
    (juh : PySem.W.findIn TheK.K (.ref ic0) ("part" : Str) = some none)
    (jui : PySem.W.findIn TheK.K (.ref ic0) ("index" : Str) = some none)
    (jnf : PySem.W.findIn TheK.K (.ref ib0) "__getattribute__" = some (some (.builtin "BaseException.__getattribute__")))
    (jng : PySem.W.findIn TheK.K (.ref ib0) "__getattr__" = some none)
    (juj : PySem.W.findIn TheK.K (.ref id0) "__getattribute__" = some (some (.builtin "BaseException.__getattribute__")))
    (juk : PySem.W.findIn TheK.K (.ref id0) "__getattr__" = some none)
    (jul : PySem.W.findIn TheK.K (.ref ic0) "__getattribute__" = some (some (.builtin "BaseException.__getattribute__")))
    (jum : PySem.W.findIn TheK.K (.ref ic0) "__getattr__" = some none)
    (is0 : PySem.W.subIn TheK.K (.ref ib0) (.type "BaseException") = some true)
    (jbp : PySem.W.hasDictIn TheK.K ib0 = true)
    (jbw : PySem.W.typeIn TheK.K (.ref ib0) = some (.type "type"))
    (jbq : PySem.W.subIn TheK.K (.ref id0) (.type "BaseException") = some true)
    (jbx : PySem.W.hasDictIn TheK.K id0 = true)
    (jby : PySem.W.typeIn TheK.K (.ref id0) = some (.type "type"))
    (jnh : PySem.W.subIn TheK.K (.ref ic0) (.type "BaseException") = some true)
    (jun : PySem.W.hasDictIn TheK.K ic0 = true)
    (juo : PySem.W.typeIn TheK.K (.ref ic0) = some (.type "type"))
    (jup : PySem.W.findIn TheK.K (.ref ia0) ("bridges" : Str) = some (some (.ref iq0)))
    (juq : PySem.W.specialIn TheK.K (.ref iq0) "__get__" = some (some (.builtin "property.__get__")))
    (jur : PySem.W.takesIn TheK.K (.ref iq0) = some true)
    (jus : PySem.W.recIn TheK.K iq0 "property" = some (.ref iz0 :: jrc))
    (jut : PySem.W.findIn TheK.K (.ref ia0) ("place_count" : Str) = some (some (.ref ir0)))
    (juu : PySem.W.specialIn TheK.K (.ref ir0) "__get__" = some (some (.builtin "property.__get__")))
    (juv : PySem.W.takesIn TheK.K (.ref ir0) = some true)
    (juw : PySem.W.recIn TheK.K ir0 "property" = some (.ref jba :: jrd))
    (jux : PySem.W.findIn TheK.K (.ref ie0) ("fail" : Str) = some (some (.ref ik0)))
    (juy : PySem.W.isFn TheK.K (.ref ik0) = true)
    (juz : PySem.W.findIn TheK.K (.ref ie0) ("read" : Str) = some (some (.ref il0)))
    (jva : PySem.W.isFn TheK.K (.ref il0) = true)
    (jvb : PySem.W.findIn TheK.K (.ref ie0) ("read_life" : Str) = some (some (.ref im0)))
    (jvc : PySem.W.isFn TheK.K (.ref im0) = true)
    (jvd : PySem.W.findIn TheK.K (.ref ie0) ("read_bridge" : Str) = some (some (.ref in0)))
    (jve : PySem.W.isFn TheK.K (.ref in0) = true)
    (jvf : PySem.W.findIn TheK.K (.ref ie0) ("read_town" : Str) = some (some (.ref io0)))
    (jvg : PySem.W.isFn TheK.K (.ref io0) = true)
    (jvh : ib0 ≠ id0)
    (jvi : PySem.W.nsIn TheK.K mainGlobals ("MAX_LENGTH" : Str) = some (some (.int 99 jdd)))
    (jvj : PySem.W.nsIn TheK.K mainGlobals ("HEAD" : Str) = some (some (.int 84 jde)))
    (jvk : PySem.W.nsIn TheK.K mainGlobals ("GROUP" : Str) = some (some (.int 128 jdf)))
    (jvl : PySem.W.nsIn TheK.K mainGlobals ("START" : Str) = some (some (.int 5 jdg)))
    (jvm : PySem.W.nsIn TheK.K mainGlobals ("FACTOR" : Str) = some (some (.int 41 jdh)))
    (jvn : PySem.W.nsIn TheK.K mainGlobals ("MODULUS" : Str) = some (some (.int 65521 jdi)))
    (jvo : PySem.W.nsIn TheK.K mainGlobals ("BYTE" : Str) = some (some (.int 256 jdj)))
    (jni : PySem.W.nsIn TheK.K mainGlobals ("range" : Str) = some none)
    (jnj : PySem.W.nsIn TheK.K mainGlobals ("int" : Str) = some none)
    (jnk : PySem.W.nsIn TheK.K mainGlobals ("len" : Str) = some none)
    (jnl : PySem.W.nsIn TheK.K mainGlobals ("tuple" : Str) = some none)
    (jnm : PySem.W.nsIn TheK.K mainGlobals ("enumerate" : Str) = some none)
    (jnn : PySem.W.nsIn TheK.K mainGlobals ("list" : Str) = some none)
    (jno : PySem.W.nsIn TheK.K mainGlobals ("bytes" : Str) = some none)
    (jnp : PySem.W.nsIn TheK.K mainGlobals ("all" : Str) = some none)
    (jnq : PySem.W.nsIn TheK.K mainGlobals ("isinstance" : Str) = some none)
    (jnr : PySem.W.findCls TheK.K (.ref jbr) (.type "type") "__init__" = some (.val (.builtin "ValueError.__init__")))
    (jvp : PySem.W.keepIn TheK.K (.ref ic0) = true)
    (jvq : TheK.K.lookup jbn = some ⟨jrg, jre, .func (PySem.W.fnOf ("__init__" : Str) ("InvalidTown.__init__" : Str) (defArgs (inClass (top 3) 0)) (defBody (inClass (top 3) 0)) (defScope (inClass (top 3) 0)) .none jji jjj jjk jjh jdk jjl), jrf⟩)
    (jvr : PySem.W.codeIn TheK.K jdk ("InvalidTown.__init__" : Str) = true)
    (jvs : PySem.W.keepIn TheK.K (.ref jbn) = true)
    (jvt : PySem.W.findIn TheK.K (.ref ic0) "__init__" = some (some (.ref jbn)))
    (jvu : PySem.W.typeIn TheK.K (.ref jbn) = some (.type "function"))
    (jvv : PySem.W.findIn TheK.K (.ref ic0) "__setattr__" = some (some (.builtin "object.__setattr__")))
    (jvw : TheK.K.lookup ic0 = some (excClassObj jrh jri ic0 jrj jrk jbu true jrl jrm jrn jro jrp jrq jrr jrs jrt jru "ValueError.__new__"))
    (jbu : PySem.HandSPX.refsVE jbu = true)
    (jvx : PySem.W.keepIn TheK.K (.ref id0) = true)
    (jvy : PySem.W.excIn TheK.K id0 PySem.HandSPX.veTail "ValueError.__new__" = true)
    (jvz : PySem.W.keepIn TheK.K (.ref ib0) = true)
    (jwa : TheK.K.lookup jbo = some ⟨jrx, jrv, .func (PySem.W.fnOf ("__init__" : Str) ("InvalidData.__init__" : Str) (defArgs (inClass (top 5) 0)) (defBody (inClass (top 5) 0)) (defScope (inClass (top 5) 0)) .none jjn jjo jjp jjm jdl jjq), jrw⟩)
    (jwb : PySem.W.codeIn TheK.K jdl ("InvalidData.__init__" : Str) = true)
    (jwc : PySem.W.keepIn TheK.K (.ref jbo) = true)
    (jwd : PySem.W.findIn TheK.K (.ref ib0) "__init__" = some (some (.ref jbo)))
    (jwe : PySem.W.typeIn TheK.K (.ref jbo) = some (.type "function"))
    (jwf : PySem.W.findIn TheK.K (.ref ib0) "__setattr__" = some (some (.builtin "object.__setattr__")))
    (jwg : TheK.K.lookup ib0 = some (excClassObj jry jrz ib0 jsa jsb jbv true jsc jsd jse jsf jsg jsh jsi jsj jsk jsl "ValueError.__new__"))
    (jbv : PySem.HandSPX.refsVE jbv = true)
    (jwh : PySem.W.findIn TheK.K (.ref id0) "__class__" = some (some (.builtin "object.__class__")))
    (jwi : PySem.W.mroIn TheK.K id0 (.type "object") = some true)
    (jwj : PySem.W.subIn TheK.K (.ref id0) (.ref id0) = some true)
    (jwk : PySem.W.subIn TheK.K (.ref id0) (.ref ib0) = some false)
    (jwl : PySem.W.findIn TheK.K (.ref ib0) "__class__" = some (some (.builtin "object.__class__")))
    (jwm : PySem.W.mroIn TheK.K ib0 (.type "object") = some true)
    (jwn : PySem.W.subIn TheK.K (.ref ib0) (.ref ib0) = some true)
    (jwo : PySem.W.subIn TheK.K (.ref ib0) (.ref id0) = some false)
    (jwp : PySem.W.findIn TheK.K (.ref ic0) "__class__" = some (some (.builtin "object.__class__")))
    (jwq : PySem.W.mroIn TheK.K ic0 (.type "object") = some true)
    (jxe : PySem.W.subIn TheK.K (.ref ic0) (.ref ic0) = some true)
    (jwr : PySem.W.subIn TheK.K (.ref ic0) (.ref id0) = some false)
    (jws : PySem.W.subIn TheK.K (.ref ic0) (.ref ib0) = some false)
    (jwt : PySem.W.findIn TheK.K (.ref ia0) "__class__" = some (some (.builtin "object.__class__")))
    (jwu : PySem.W.mroIn TheK.K ia0 (.type "object") = some true)
    (jwv : PySem.W.subIn TheK.K (.ref ia0) (.type "tuple") = some false)
    (jbz : PySem.W.specialIn TheK.K (.builtin "object.__class__") "__get__" = some (some (.builtin "getset_descriptor.__get__")))
    (jca : PySem.W.takesIn TheK.K (.builtin "object.__class__") = some true)
    (jns : jbs = .ref ig0)
    (jcb : TheK.K.lookup ig0 = some ⟨.type "code", jsm, .fields ih0, jsn⟩)
    (jnt : ih0[11]? = some (.ref if0))
    (jww : ih0.getD 11 .none = .ref if0)
    (jwx : ih0.getD 18 .none = .str jjr jjv)
    (jwy : ih0.getD 7 .none = .int jjs jjw)
    (jwz : ih0.getD 9 .none = .bool jjt)
    (jxa : ih0.getD 10 .none = .int jju jjx)
    (jnu : TheK.K.lookup if0 = none) :
    LamX.LawAtS l w TheK.K (L2.CX l.prog w) 13 63 "_law_script" mg fa h := by
  have e : ii0 = fa := Value.ref.inj (Option.some.inj ((PySem.W.mg_of KX G jds).symm.trans hfa))
  subst e
  have X : Fx mg ({ f_law_start := it0, d_law_start := PySem.W.fnOf ("_law_start" : Str) ("_law_start" : Str) (defArgs (top 24)) (defBody (top 24)) (defScope (top 24)) .none jdv jdw jdx jdu jcc jdy, f_law_drawn := iu0, d_law_drawn := PySem.W.fnOf ("_law_drawn" : Str) ("_law_drawn" : Str) (defArgs (top 25)) (defBody (top 25)) (defScope (top 25)) .none jea jeb jec jdz jcd jed, f_law_bridges := iv0, d_law_bridges := PySem.W.fnOf ("_law_bridges" : Str) ("_law_bridges" : Str) (defArgs (top 28)) (defBody (top 28)) (defScope (top 28)) .none jef jeg jeh jee jce jei, f_law_groups := iw0, d_law_groups := PySem.W.fnOf ("_law_groups" : Str) ("_law_groups" : Str) (defArgs (top 30)) (defBody (top 30)) (defScope (top 30)) .none jek jel jem jej jcf jen, f_law_body := ix0, d_law_body := PySem.W.fnOf ("_law_body" : Str) ("_law_body" : Str) (defArgs (top 31)) (defBody (top 31)) (defScope (top 31)) .none jep jeq jer jeo jcg jes, f_Town_is_bridge := iy0, d_Town_is_bridge := PySem.W.fnOf ("is_bridge" : Str) ("Town.is_bridge" : Str) (defArgs (inClass (top 8) 4)) (defBody (inClass (top 8) 4)) (defScope (inClass (top 8) 4)) .none jeu jev jew jet jch jex, f_Town__init := ij0, d_Town__init := PySem.W.fnOf ("__init__" : Str) ("Town.__init__" : Str) (defArgs (inClass (top 8) 3)) (defBody (inClass (top 8) 3)) (defScope (inClass (top 8) 3)) .none jez jfa jfb jey jci jfc, f_Town_bridges := iz0, d_Town_bridges := PySem.W.fnOf ("bridges" : Str) ("Town.bridges" : Str) (defArgs (inClass (top 8) 7)) (defBody (inClass (top 8) 7)) (defScope (inClass (top 8) 7)) .none jfe jff jfg jfd jcj jfh, f_Town_place_count := jba, d_Town_place_count := PySem.W.fnOf ("place_count" : Str) ("Town.place_count" : Str) (defArgs (inClass (top 8) 6)) (defBody (inClass (top 8) 6)) (defScope (inClass (top 8) 6)) .none jfj jfk jfl jfi jck jfm, f_groups_of := jbb, d_groups_of := PySem.W.fnOf ("groups_of" : Str) ("groups_of" : Str) (defArgs (top 19)) (defBody (top 19)) (defScope (top 19)) .none jfo jfp jfq jfn jcl jfr, f_checksum := jbc, d_checksum := PySem.W.fnOf ("checksum" : Str) ("checksum" : Str) (defArgs (top 18)) (defBody (top 18)) (defScope (top 18)) .none jft jfu jfv jfs jcm jfw, f_encode_town := jbd, d_encode_town := PySem.W.fnOf ("encode_town" : Str) ("encode_town" : Str) (defArgs (top 20)) (defBody (top 20)) (defScope (top 20)) .none jfy jfz jga jfx jcn jgb, f_unpack_bytes := jbe, d_unpack_bytes := PySem.W.fnOf ("unpack_bytes" : Str) ("unpack_bytes" : Str) (defArgs (top 17)) (defBody (top 17)) (defScope (top 17)) .none jgd jge jgf jgc jco jgg, f_law_checksum := jbf, d_law_checksum := PySem.W.fnOf ("_law_checksum" : Str) ("_law_checksum" : Str) (defArgs (top 29)) (defBody (top 29)) (defScope (top 29)) .none jgi jgj jgk jgh jcp jgl, f_law_damaged := jbg, d_law_damaged := PySem.W.fnOf ("_law_damaged" : Str) ("_law_damaged" : Str) (defArgs (top 35)) (defBody (top 35)) (defScope (top 35)) .none jgn jgo jgp jgm jcq jgq, f_pack_bytes := jbh, d_pack_bytes := PySem.W.fnOf ("pack_bytes" : Str) ("pack_bytes" : Str) (defArgs (top 16)) (defBody (top 16)) (defScope (top 16)) .none jgs jgt jgu jgr jcr jgv, f_law_get := jbi, d_law_get := PySem.W.fnOf ("_law_get" : Str) ("_law_get" : Str) (defArgs (top 32)) (defBody (top 32)) (defScope (top 32)) .none jgx jgy jgz jgw jcs jha, f_law_fault := jbj, d_law_fault := PySem.W.fnOf ("_law_fault" : Str) ("_law_fault" : Str) (defArgs (top 33)) (defBody (top 33)) (defScope (top 33)) .none jhc jhd jhe jhb jct jhf, f_law_read := jbk, d_law_read := PySem.W.fnOf ("_law_read" : Str) ("_law_read" : Str) (defArgs (top 34)) (defBody (top 34)) (defScope (top 34)) .none jhh jhi jhj jhg jcu jhk, f_law_outcome := jbl, d_law_outcome := PySem.W.fnOf ("_law_outcome" : Str) ("_law_outcome" : Str) (defArgs (top 27)) (defBody (top 27)) (defScope (top 27)) .none jhm jhn jho jhl jcv jhp, f_TownReader_fail := ik0, d_TownReader_fail := PySem.W.fnOf ("fail" : Str) ("TownReader.fail" : Str) (defArgs (inClass (top 21) 1)) (defBody (inClass (top 21) 1)) (defScope (inClass (top 21) 1)) .none jhr jhs jht jhq jcw jhu, f_TownReader_read := il0, d_TownReader_read := PySem.W.fnOf ("read" : Str) ("TownReader.read" : Str) (defArgs (inClass (top 21) 2)) (defBody (inClass (top 21) 2)) (defScope (inClass (top 21) 2)) .none jhw jhx jhy jhv jcx jhz, f_TownReader_read_life := im0, d_TownReader_read_life := PySem.W.fnOf ("read_life" : Str) ("TownReader.read_life" : Str) (defArgs (inClass (top 21) 3)) (defBody (inClass (top 21) 3)) (defScope (inClass (top 21) 3)) .none jib jic jid jia jcy jie, f_TownReader_read_bridge := in0, d_TownReader_read_bridge := PySem.W.fnOf ("read_bridge" : Str) ("TownReader.read_bridge" : Str) (defArgs (inClass (top 21) 4)) (defBody (inClass (top 21) 4)) (defScope (inClass (top 21) 4)) .none jig jih jii jif jcz jij, f_TownReader_read_town := io0, d_TownReader_read_town := PySem.W.fnOf ("read_town" : Str) ("TownReader.read_town" : Str) (defArgs (inClass (top 21) 5)) (defBody (inClass (top 21) 5)) (defScope (inClass (top 21) 5)) .none jil jim jin jik jda jio, f_TownReader__init := ip0, d_TownReader__init := PySem.W.fnOf ("__init__" : Str) ("TownReader.__init__" : Str) (defArgs (inClass (top 21) 0)) (defBody (inClass (top 21) 0)) (defScope (inClass (top 21) 0)) .none jiq jir jis jip jdb jit, f_decode_town := jbm, d_decode_town := PySem.W.fnOf ("decode_town" : Str) ("decode_town" : Str) (defArgs (top 22)) (defBody (top 22)) (defScope (top 22)) .none jiv jiw jix jiu jdc jiy, f_law := ii0, d_law := PySem.W.fnOf ("law" : Str) ("law" : Str) (defArgs (top 36)) (defBody (top 36)) (defScope (top 36)) .none jja jjb jjc jiz jbs jjd, C_Town := ia0, C_InvalidTown := ic0, C_InvalidCount := id0, C_InvalidData := ib0, C_TownReader := ie0, i_InvalidTown := jbn, j_InvalidTown := PySem.W.fnOf ("__init__" : Str) ("InvalidTown.__init__" : Str) (defArgs (inClass (top 3) 0)) (defBody (inClass (top 3) 0)) (defScope (inClass (top 3) 0)) .none jji jjj jjk jjh jdk jjl, i_InvalidData := jbo, j_InvalidData := PySem.W.fnOf ("__init__" : Str) ("InvalidData.__init__" : Str) (defArgs (inClass (top 5) 0)) (defBody (inClass (top 5) 0)) (defScope (inClass (top 5) 0)) .none jjn jjo jjp jjm jdl jjq, mc := .type "type", lc_law := ig0, lP_law := if0, t_Town_MAX_PLACES := (.int 12 jje), t_Town_MAX_LIFE := (.int 1000000000000000000 jjf), t_Town_MAX_BRIDGES := (.int 24 jjg), p_Town_is_bridge := jbt, a_Town_bridges := iq0, a_Town_place_count := ir0, t_MAX_LENGTH := jdd, t_HEAD := jde, t_GROUP := jdf, t_START := jdg, t_FACTOR := jdh, t_MODULUS := jdi, t_BYTE := jdj : Ad }) := {
    F_law_start := fun_mk (st := top 24) jjz jka jkb,
    b_law_start := (fun_mk (st := top 24) jjz jka jkb).binds fun _ _ _ _ _ _ us hl => match us, hl with | [_], _ => rfl,
    m_law_start := PySem.W.mg_of KX G jst,
    F_law_drawn := fun_mk (st := top 25) jkc jkd jke,
    b_law_drawn := (fun_mk (st := top 25) jkc jkd jke).binds fun _ _ _ _ _ _ us hl => match us, hl with | [_, _], _ => rfl,
    m_law_drawn := PySem.W.mg_of KX G jsu,
    F_law_bridges := fun_mk (st := top 28) jkf jkg jkh,
    b_law_bridges := (fun_mk (st := top 28) jkf jkg jkh).binds fun _ _ _ _ _ _ us hl => match us, hl with | [_, _, _, _], _ => rfl,
    m_law_bridges := PySem.W.mg_of KX G jsv,
    F_law_groups := fun_mk (st := top 30) jki jkj jkk,
    b_law_groups := (fun_mk (st := top 30) jki jkj jkk).binds fun _ _ _ _ _ _ us hl => match us, hl with | [_], _ => rfl,
    m_law_groups := PySem.W.mg_of KX G jsw,
    F_law_body := fun_mk (st := top 31) jkl jkm jkn,
    b_law_body := (fun_mk (st := top 31) jkl jkm jkn).binds fun _ _ _ _ _ _ us hl => match us, hl with | [_, _], _ => rfl,
    m_law_body := PySem.W.mg_of KX G jsx,
    F_Town_is_bridge := fun_mk (st := inClass (top 8) 4) jko jkp jdm,
    b_Town_is_bridge := (fun_mk (st := inClass (top 8) 4) jko jkp jdm).binds fun _ _ _ _ _ _ us hl => match us, hl with | [_, _], _ => rfl,
    F_Town__init := fun_mk (st := inClass (top 8) 3) jkq jkr jks,
    b_Town__init := (fun_mk (st := inClass (top 8) 3) jkq jkr jks).binds fun _ _ _ _ _ _ us hl => match us, hl with | [_, _, _], _ => rfl,
    F_Town_bridges := fun_mk (st := inClass (top 8) 7) jkt jku jkv,
    b_Town_bridges := (fun_mk (st := inClass (top 8) 7) jkt jku jkv).binds fun _ _ _ _ _ _ us hl => match us, hl with | [_], _ => rfl,
    F_Town_place_count := fun_mk (st := inClass (top 8) 6) jkw jkx jky,
    b_Town_place_count := (fun_mk (st := inClass (top 8) 6) jkw jkx jky).binds fun _ _ _ _ _ _ us hl => match us, hl with | [_], _ => rfl,
    F_groups_of := fun_mk (st := top 19) jkz jla jlb,
    b_groups_of := (fun_mk (st := top 19) jkz jla jlb).binds fun _ _ _ _ _ _ us hl => match us, hl with | [_], _ => rfl,
    m_groups_of := PySem.W.mg_of KX G jsz,
    F_checksum := fun_mk (st := top 18) jlc jld jle,
    b_checksum := (fun_mk (st := top 18) jlc jld jle).binds fun _ _ _ _ _ _ us hl => match us, hl with | [_], _ => rfl,
    m_checksum := PySem.W.mg_of KX G jta,
    F_encode_town := fun_mk (st := top 20) jlf jlg jlh,
    b_encode_town := (fun_mk (st := top 20) jlf jlg jlh).binds fun _ _ _ _ _ _ us hl => match us, hl with | [_], _ => rfl,
    m_encode_town := PySem.W.mg_of KX G jtb,
    F_unpack_bytes := fun_mk (st := top 17) jli jlj jlk,
    b_unpack_bytes := (fun_mk (st := top 17) jli jlj jlk).binds fun _ _ _ _ _ _ us hl => match us, hl with | [_], _ => rfl,
    m_unpack_bytes := PySem.W.mg_of KX G jtc,
    F_law_checksum := fun_mk (st := top 29) jll jlm jln,
    b_law_checksum := (fun_mk (st := top 29) jll jlm jln).binds fun _ _ _ _ _ _ us hl => match us, hl with | [_], _ => rfl,
    m_law_checksum := PySem.W.mg_of KX G jtd,
    F_law_damaged := fun_mk (st := top 35) jlo jlp jlq,
    b_law_damaged := (fun_mk (st := top 35) jlo jlp jlq).binds fun _ _ _ _ _ _ us hl => match us, hl with | [_, _], _ => rfl,
    m_law_damaged := PySem.W.mg_of KX G jte,
    F_pack_bytes := fun_mk (st := top 16) jlr jls jlt,
    b_pack_bytes := (fun_mk (st := top 16) jlr jls jlt).binds fun _ _ _ _ _ _ us hl => match us, hl with | [_], _ => rfl,
    m_pack_bytes := PySem.W.mg_of KX G jtf,
    F_law_get := fun_mk (st := top 32) jlu jlv jlw,
    b_law_get := (fun_mk (st := top 32) jlu jlv jlw).binds fun _ _ _ _ _ _ us hl => match us, hl with | [_, _, _], _ => rfl,
    m_law_get := PySem.W.mg_of KX G jtg,
    F_law_fault := fun_mk (st := top 33) jlx jly jlz,
    b_law_fault := (fun_mk (st := top 33) jlx jly jlz).binds fun _ _ _ _ _ _ us hl => match us, hl with | [_, _, _], _ => rfl,
    m_law_fault := PySem.W.mg_of KX G jth,
    F_law_read := fun_mk (st := top 34) jma jmb jmc,
    b_law_read := (fun_mk (st := top 34) jma jmb jmc).binds fun _ _ _ _ _ _ us hl => match us, hl with | [_], _ => rfl,
    m_law_read := PySem.W.mg_of KX G jti,
    F_law_outcome := fun_mk (st := top 27) jmd jme jmf,
    b_law_outcome := (fun_mk (st := top 27) jmd jme jmf).binds fun _ _ _ _ _ _ us hl => match us, hl with | [_], _ => rfl,
    m_law_outcome := PySem.W.mg_of KX G jtj,
    F_TownReader_fail := fun_mk (st := inClass (top 21) 1) jmg jmh jdn,
    b_TownReader_fail := (fun_mk (st := inClass (top 21) 1) jmg jmh jdn).binds fun _ _ _ _ _ _ us hl => match us, hl with | [_, _], _ => rfl,
    F_TownReader_read := fun_mk (st := inClass (top 21) 2) jmi jmj jdo,
    b_TownReader_read := (fun_mk (st := inClass (top 21) 2) jmi jmj jdo).binds fun _ _ _ _ _ _ us hl => match us, hl with | [_, _, _], _ => rfl,
    F_TownReader_read_life := fun_mk (st := inClass (top 21) 3) jmk jml jdp,
    b_TownReader_read_life := (fun_mk (st := inClass (top 21) 3) jmk jml jdp).binds fun _ _ _ _ _ _ us hl => match us, hl with | [_], _ => rfl,
    F_TownReader_read_bridge := fun_mk (st := inClass (top 21) 4) jmm jmn jdq,
    b_TownReader_read_bridge := (fun_mk (st := inClass (top 21) 4) jmm jmn jdq).binds fun _ _ _ _ _ _ us hl => match us, hl with | [_, _], _ => rfl,
    F_TownReader_read_town := fun_mk (st := inClass (top 21) 5) jmo jmp jdr,
    b_TownReader_read_town := (fun_mk (st := inClass (top 21) 5) jmo jmp jdr).binds fun _ _ _ _ _ _ us hl => match us, hl with | [_], _ => rfl,
    F_TownReader__init := fun_mk (st := inClass (top 21) 0) jmq jmr jms,
    b_TownReader__init := (fun_mk (st := inClass (top 21) 0) jmq jmr jms).binds fun _ _ _ _ _ _ us hl => match us, hl with | [_, _], _ => rfl,
    F_decode_town := fun_mk (st := top 22) jmt jmu jmv,
    b_decode_town := (fun_mk (st := top 22) jmt jmu jmv).binds fun _ _ _ _ _ _ us hl => match us, hl with | [_], _ => rfl,
    m_decode_town := PySem.W.mg_of KX G jtl,
    F_law := fun_mk (st := top 36) jdt jmw jmx,
    b_law := (fun_mk (st := top 36) jdt jmw jmx).binds fun _ _ _ _ _ _ us hl => match us, hl with | [_], _ => rfl,
    m_law := PySem.W.mg_of KX G jds,
    m_Town := PySem.W.mg_of KX G jso,
    m_InvalidTown := PySem.W.mg_of KX G jsp,
    m_InvalidCount := PySem.W.mg_of KX G jsq,
    m_InvalidData := PySem.W.mg_of KX G jsr,
    m_TownReader := PySem.W.mg_of KX G jss,
    r_Town := ⟨jtm, jtn⟩,
    v_Town_MAX_PLACES := ⟨jto, _, rfl⟩,
    v_Town_MAX_LIFE := ⟨jtp, _, rfl⟩,
    v_Town_MAX_BRIDGES := ⟨jtq, _, rfl⟩,
    s_Town_is_bridge := ⟨jtr, ⟨_, jts⟩, jdm⟩,
    c_Town := ⟨jna, jnb, jnc, jnd⟩,
    k_Town := ⟨jtt, jtv, jsy, jtu⟩,
    c_TownReader := ⟨jtw, jtx, jty, jtz⟩,
    k_TownReader := ⟨jua, juc, jtk, jub⟩,
    n_Town_size := jud,
    n_Town_links := jue,
    n_InvalidData_offset := jne,
    n_TownReader_octets := juf,
    n_TownReader_cursor := jug,
    xf_InvalidData := ⟨jnf, jng, is0, jbp⟩,
    p_Town_bridges := ⟨jup, juq, jur, _, jus⟩,
    p_Town_place_count := ⟨jut, juu, juv, _, juw⟩,
    q_TownReader_fail := ⟨jux, juy, jdn⟩,
    q_TownReader_read := ⟨juz, jva, jdo⟩,
    q_TownReader_read_life := ⟨jvb, jvc, jdp⟩,
    q_TownReader_read_bridge := ⟨jvd, jve, jdq⟩,
    q_TownReader_read_town := ⟨jvf, jvg, jdr⟩,
    m_MAX_LENGTH := PySem.W.mg_of KX G jvi,
    m_HEAD := PySem.W.mg_of KX G jvj,
    m_GROUP := PySem.W.mg_of KX G jvk,
    m_START := PySem.W.mg_of KX G jvl,
    m_FACTOR := PySem.W.mg_of KX G jvm,
    m_MODULUS := PySem.W.mg_of KX G jvn,
    m_BYTE := PySem.W.mg_of KX G jvo,
    z_range := PySem.W.mg_none_of KX G jni,
    z_int := PySem.W.mg_none_of KX G jnj,
    z_len := PySem.W.mg_none_of KX G jnk,
    z_tuple := PySem.W.mg_none_of KX G jnl,
    z_enumerate := PySem.W.mg_none_of KX G jnm,
    z_list := PySem.W.mg_none_of KX G jnn,
    z_bytes := PySem.W.mg_none_of KX G jno,
    z_all := PySem.W.mg_none_of KX G jnp,
    z_isinstance := PySem.W.mg_none_of KX G jnq,
    x_InvalidTown := fun w base => xinit2 (fun_mk (st := inClass (top 3) 0) jvq jvr jvs) ⟨rfl, rfl, rfl, by decide +kernel, rfl, by decide +kernel, by decide +kernel⟩ ⟨⟨_, _, _, _, _, _, _, _, _, _, _, _, _, _, _, jvw, jbu⟩, jvv, jnh, juo, jvp⟩ jvt jvu juh jui (fun s us ws _ l1 l2 => match us, l1, ws, l2 with | [_], _, [_, _], _ => .of_eq rfl) fun cdv A outer s H E => pss_cons (ps_expr (pe_oinit (pl := _) rfl (PySem.W.mg_of KX G jjy) ⟨jmy, jmz⟩ jnr (pa_cons (pv 0) (pa_cons pe_str pa_nil)))) (pss_cons (ps_ost (pv 0) (pv 1)) (pss_one (ps_ost (pv 0) (pv 2)))),
    e_InvalidCount := jvy,
    kp_InvalidCount := jvx,
    eb_InvalidCount := jbq,
    et_InvalidCount := jby,
    x_InvalidData := fun w base => xinit1 (fun_mk (st := inClass (top 5) 0) jwa jwb jwc) ⟨rfl, rfl, rfl, by decide +kernel, rfl, by decide +kernel, by decide +kernel⟩ ⟨⟨_, _, _, _, _, _, _, _, _, _, _, _, _, _, _, jwg, jbv⟩, jwf, is0, jbw, jvz⟩ jwd jwe jne (fun s us ws _ l1 l2 => match us, l1, ws, l2 with | [_], _, [_], _ => .of_eq rfl) fun cdv A outer s H E => pss_cons (ps_expr (pe_oinit (pl := _) rfl (PySem.W.mg_of KX G jjy) ⟨jmy, jmz⟩ jnr (pa_cons (pv 0) (pa_cons pe_str pa_nil)))) (pss_one (ps_ost (pv 0) (pv 1))),
    ci_Town := ⟨⟨jna, jnb, jnc, jnd⟩, jwt, jbz, jca, jwu⟩,
    ki_Town_tuple := kit_type (by decide +kernel) jwv,
    ec_InvalidCount := ⟨juj, juk, jbq, jbx, jwh, jbz, jca, jwi⟩,
    xm_InvalidCount_InvalidCount := exm_own jbq jbx jby jwj,
    xm_InvalidCount_InvalidData := exm_own is0 jbp jbw jwk,
    ec_InvalidData := ⟨jnf, jng, is0, jbp, jwl, jbz, jca, jwm⟩,
    xm_InvalidData_InvalidCount := exm_own jbq jbx jby jwo,
    xm_InvalidData_InvalidData := exm_own is0 jbp jbw jwn,
    ec_InvalidTown := ⟨jul, jum, jnh, jun, jwp, jbz, jca, jwq⟩,
    xm_InvalidTown_InvalidCount := exm_own jbq jbx jby jwr,
    xm_InvalidTown_InvalidData := exm_own is0 jbp jbw jws }
  have jxb : ig0 ≠ if0 := fun z => by rw [z, jnu] at jcb; cases jcb
  have jxc : PySem.W.CodeHd h ig0 if0 := ⟨_, ih0, jjr, jjv, jjs, jjw, jjt, jju, jjx, KX _ _ jcb, rfl, rfl, jnt, jww, jwx, jwy, jwz, jxa, jxb⟩
  have jxd := own ("law" : Str) (by simp [lamNames]) ii0 (PySem.W.mg_of KX G jds) ig0 if0 _ _ _ _ _ _ jdt rfl jns jcb jnt
  refine law_atN [(ig0, if0, lamQ_law)] (fun p hp => by
    rcases List.mem_cons.mp hp with rfl | hp
    · exact jxd
    cases hp) (fun p hp => by
    rcases List.mem_cons.mp hp with rfl | hp
    · exact jnu
    cases hp) (fun p hp => by
    rcases List.mem_cons.mp hp with rfl | hp
    · exact jxc
    cases hp) (fun s u => .of_eq rfl) (law_true _ jvh) fun base _ _ TB => ok_law X ?_
  exact ⟨(TB _ (.head _)), (jns), (fun p hp e => by
    rcases List.mem_cons.mp hp with rfl | hp
    · exact rfl
    cases hp)⟩
end
end Law
namespace Law
open PySem PySem.Spec PyProof.Rows L2 CL
theorem law_here {w : World} {mg : Str → Option Value} {fa : Addr} {h : Heap} {K : HD.Fr} (KX : K.In h) (G : h.Ns mainGlobals mg) (hfa : mg "law" = some (.ref fa)) (own : ∀ y ∈ lamNames, ∀ f, mg y = some (.ref f) → LamX.OwnTab K f h) (e : HD.obs chkX fnsX K = HD.val fnsX) :
    LamX.LawAtS PySem.Challenge.rw_wornbridges_k46_bytes_of_towns w K (L2.CX PySem.Challenge.rw_wornbridges_k46_bytes_of_towns.prog w) 13 63 "_law_script" mg fa h := by
  have c := HD.obs_chk e
  obtain ⟨c0, c⟩ := He.ba c
  obtain ⟨c1, c⟩ := He.ba c
  obtain ⟨c2, c⟩ := He.ba c
  obtain ⟨c3, c⟩ := He.ba c
  obtain ⟨c4, c⟩ := He.ba c
  obtain ⟨c5, c⟩ := He.ba c
  obtain ⟨c6, c⟩ := He.ba c
  have ia0 : PySem.W.nsIn K mainGlobals ("Town" : Str) = some (some (.ref (h_C_Town K))) := HD.dec c0 0
  have ib0 : PySem.W.nsIn K mainGlobals ("InvalidTown" : Str) = some (some (.ref (h_C_InvalidTown K))) := HD.dec c0 1
  have ic0 : PySem.W.nsIn K mainGlobals ("InvalidCount" : Str) = some (some (.ref (h_C_InvalidCount K))) := HD.dec c0 2
  have id0 : PySem.W.nsIn K mainGlobals ("InvalidData" : Str) = some (some (.ref (h_C_InvalidData K))) := HD.dec c0 3
  have ie0 : PySem.W.nsIn K mainGlobals ("TownReader" : Str) = some (some (.ref (h_C_TownReader K))) := HD.dec c0 4
  have if0 : PySem.W.nsIn K mainGlobals ("BridgeError" : Str) = some (some (.ref (h_C_BridgeError K))) := HD.dec c0 5
  have ig0 : PySem.W.nsIn K mainGlobals ("_law_start" : Str) = some (some (.ref (h_f_law_start K))) := HD.dec c0 6
  have ih0 : K.lookup (h_f_law_start K) = some ⟨_, _, .func (PySem.W.fnOf ("_law_start" : Str) ("_law_start" : Str) (defArgs (top 24)) (defBody (top 24)) (defScope (top 24)) .none _ _ _ _ (h_cd_law_start K) _), _⟩ := HD.fn_eq (d := fx_law_start) (HD.obs_fn e 0) rfl
  have ii0 : PySem.W.codeIn K (h_cd_law_start K) ("_law_start" : Str) = true := HD.dec c0 7
  have ij0 : PySem.W.keepIn K (.ref (h_f_law_start K)) = true := HD.dec c0 8
  have ik0 : PySem.W.nsIn K mainGlobals ("_law_drawn" : Str) = some (some (.ref (h_f_law_drawn K))) := HD.dec c0 9
  have il0 : K.lookup (h_f_law_drawn K) = some ⟨_, _, .func (PySem.W.fnOf ("_law_drawn" : Str) ("_law_drawn" : Str) (defArgs (top 25)) (defBody (top 25)) (defScope (top 25)) .none _ _ _ _ (h_cd_law_drawn K) _), _⟩ := HD.fn_eq (d := fx_law_drawn) (HD.obs_fn e 1) rfl
  have im0 : PySem.W.codeIn K (h_cd_law_drawn K) ("_law_drawn" : Str) = true := HD.dec c0 10
  have in0 : PySem.W.keepIn K (.ref (h_f_law_drawn K)) = true := HD.dec c0 11
  have io0 : PySem.W.nsIn K mainGlobals ("_law_bridges" : Str) = some (some (.ref (h_f_law_bridges K))) := HD.dec c0 12
  have ip0 : K.lookup (h_f_law_bridges K) = some ⟨_, _, .func (PySem.W.fnOf ("_law_bridges" : Str) ("_law_bridges" : Str) (defArgs (top 28)) (defBody (top 28)) (defScope (top 28)) .none _ _ _ _ (h_cd_law_bridges K) _), _⟩ := HD.fn_eq (d := fx_law_bridges) (HD.obs_fn e 2) rfl
  have iq0 : PySem.W.codeIn K (h_cd_law_bridges K) ("_law_bridges" : Str) = true := HD.dec c0 13
  have ir0 : PySem.W.keepIn K (.ref (h_f_law_bridges K)) = true := HD.dec c0 14
  have is0 : PySem.W.nsIn K mainGlobals ("_law_groups" : Str) = some (some (.ref (h_f_law_groups K))) := HD.dec c0 15
  have it0 : K.lookup (h_f_law_groups K) = some ⟨_, _, .func (PySem.W.fnOf ("_law_groups" : Str) ("_law_groups" : Str) (defArgs (top 30)) (defBody (top 30)) (defScope (top 30)) .none _ _ _ _ (h_cd_law_groups K) _), _⟩ := HD.fn_eq (d := fx_law_groups) (HD.obs_fn e 3) rfl
  have iu0 : PySem.W.codeIn K (h_cd_law_groups K) ("_law_groups" : Str) = true := HD.dec c0 16
  have iv0 : PySem.W.keepIn K (.ref (h_f_law_groups K)) = true := HD.dec c0 17
  have iw0 : PySem.W.nsIn K mainGlobals ("_law_body" : Str) = some (some (.ref (h_f_law_body K))) := HD.dec c0 18
  have ix0 : K.lookup (h_f_law_body K) = some ⟨_, _, .func (PySem.W.fnOf ("_law_body" : Str) ("_law_body" : Str) (defArgs (top 31)) (defBody (top 31)) (defScope (top 31)) .none _ _ _ _ (h_cd_law_body K) _), _⟩ := HD.fn_eq (d := fx_law_body) (HD.obs_fn e 4) rfl
  have iy0 : PySem.W.codeIn K (h_cd_law_body K) ("_law_body" : Str) = true := HD.dec c0 19
  have iz0 : PySem.W.keepIn K (.ref (h_f_law_body K)) = true := HD.dec c0 20
  have jba : K.lookup (h_f_Town_is_bridge K) = some ⟨_, _, .func (PySem.W.fnOf ("is_bridge" : Str) ("Town.is_bridge" : Str) (defArgs (inClass (top 8) 4)) (defBody (inClass (top 8) 4)) (defScope (inClass (top 8) 4)) .none _ _ _ _ (h_cd_Town_is_bridge K) _), _⟩ := HD.fn_eq (d := fx_Town_is_bridge) (HD.obs_fn e 5) rfl
  have jbb : PySem.W.codeIn K (h_cd_Town_is_bridge K) ("Town.is_bridge" : Str) = true := HD.dec c0 21
  have jbc : PySem.W.keepIn K (.ref (h_f_Town_is_bridge K)) = true := HD.dec c0 22
  have jbd : K.lookup (h_f_Town__init K) = some ⟨_, _, .func (PySem.W.fnOf ("__init__" : Str) ("Town.__init__" : Str) (defArgs (inClass (top 8) 3)) (defBody (inClass (top 8) 3)) (defScope (inClass (top 8) 3)) .none _ _ _ _ (h_cd_Town__init K) _), _⟩ := HD.fn_eq (d := fx_Town__init) (HD.obs_fn e 6) rfl
  have jbe : PySem.W.codeIn K (h_cd_Town__init K) ("Town.__init__" : Str) = true := HD.dec c0 23
  have jbf : PySem.W.keepIn K (.ref (h_f_Town__init K)) = true := HD.dec c0 24
  have jbg : PySem.W.isFn K (.ref (h_f_Town__init K)) = true := HD.dec c0 25
  have jbh : K.lookup (h_f_Town_bridges K) = some ⟨_, _, .func (PySem.W.fnOf ("bridges" : Str) ("Town.bridges" : Str) (defArgs (inClass (top 8) 7)) (defBody (inClass (top 8) 7)) (defScope (inClass (top 8) 7)) .none _ _ _ _ (h_cd_Town_bridges K) _), _⟩ := HD.fn_eq (d := fx_Town_bridges) (HD.obs_fn e 7) rfl
  have jbi : PySem.W.codeIn K (h_cd_Town_bridges K) ("Town.bridges" : Str) = true := HD.dec c0 26
  have jbj : PySem.W.keepIn K (.ref (h_f_Town_bridges K)) = true := HD.dec c0 27
  have jbk : K.lookup (h_f_Town_place_count K) = some ⟨_, _, .func (PySem.W.fnOf ("place_count" : Str) ("Town.place_count" : Str) (defArgs (inClass (top 8) 6)) (defBody (inClass (top 8) 6)) (defScope (inClass (top 8) 6)) .none _ _ _ _ (h_cd_Town_place_count K) _), _⟩ := HD.fn_eq (d := fx_Town_place_count) (HD.obs_fn e 8) rfl
  have jbl : PySem.W.codeIn K (h_cd_Town_place_count K) ("Town.place_count" : Str) = true := HD.dec c0 28
  have jbm : PySem.W.keepIn K (.ref (h_f_Town_place_count K)) = true := HD.dec c0 29
  have jbn : PySem.W.nsIn K mainGlobals ("groups_of" : Str) = some (some (.ref (h_f_groups_of K))) := HD.dec c1 0
  have jbo : K.lookup (h_f_groups_of K) = some ⟨_, _, .func (PySem.W.fnOf ("groups_of" : Str) ("groups_of" : Str) (defArgs (top 19)) (defBody (top 19)) (defScope (top 19)) .none _ _ _ _ (h_cd_groups_of K) _), _⟩ := HD.fn_eq (d := fx_groups_of) (HD.obs_fn e 9) rfl
  have jbp : PySem.W.codeIn K (h_cd_groups_of K) ("groups_of" : Str) = true := HD.dec c1 1
  have jbq : PySem.W.keepIn K (.ref (h_f_groups_of K)) = true := HD.dec c1 2
  have jbr : PySem.W.nsIn K mainGlobals ("checksum" : Str) = some (some (.ref (h_f_checksum K))) := HD.dec c1 3
  have jbs : K.lookup (h_f_checksum K) = some ⟨_, _, .func (PySem.W.fnOf ("checksum" : Str) ("checksum" : Str) (defArgs (top 18)) (defBody (top 18)) (defScope (top 18)) .none _ _ _ _ (h_cd_checksum K) _), _⟩ := HD.fn_eq (d := fx_checksum) (HD.obs_fn e 10) rfl
  have jbt : PySem.W.codeIn K (h_cd_checksum K) ("checksum" : Str) = true := HD.dec c1 4
  have jbu : PySem.W.keepIn K (.ref (h_f_checksum K)) = true := HD.dec c1 5
  have jbv : PySem.W.nsIn K mainGlobals ("encode_town" : Str) = some (some (.ref (h_f_encode_town K))) := HD.dec c1 6
  have jbw : K.lookup (h_f_encode_town K) = some ⟨_, _, .func (PySem.W.fnOf ("encode_town" : Str) ("encode_town" : Str) (defArgs (top 20)) (defBody (top 20)) (defScope (top 20)) .none _ _ _ _ (h_cd_encode_town K) _), _⟩ := HD.fn_eq (d := fx_encode_town) (HD.obs_fn e 11) rfl
  have jbx : PySem.W.codeIn K (h_cd_encode_town K) ("encode_town" : Str) = true := HD.dec c1 7
  have jby : PySem.W.keepIn K (.ref (h_f_encode_town K)) = true := HD.dec c1 8
  have jbz : PySem.W.nsIn K mainGlobals ("unpack_bytes" : Str) = some (some (.ref (h_f_unpack_bytes K))) := HD.dec c1 9
  have jca : K.lookup (h_f_unpack_bytes K) = some ⟨_, _, .func (PySem.W.fnOf ("unpack_bytes" : Str) ("unpack_bytes" : Str) (defArgs (top 17)) (defBody (top 17)) (defScope (top 17)) .none _ _ _ _ (h_cd_unpack_bytes K) _), _⟩ := HD.fn_eq (d := fx_unpack_bytes) (HD.obs_fn e 12) rfl
  have jcb : PySem.W.codeIn K (h_cd_unpack_bytes K) ("unpack_bytes" : Str) = true := HD.dec c1 10
  have jcc : PySem.W.keepIn K (.ref (h_f_unpack_bytes K)) = true := HD.dec c1 11
  have jcd : PySem.W.nsIn K mainGlobals ("_law_checksum" : Str) = some (some (.ref (h_f_law_checksum K))) := HD.dec c1 12
  have jce : K.lookup (h_f_law_checksum K) = some ⟨_, _, .func (PySem.W.fnOf ("_law_checksum" : Str) ("_law_checksum" : Str) (defArgs (top 29)) (defBody (top 29)) (defScope (top 29)) .none _ _ _ _ (h_cd_law_checksum K) _), _⟩ := HD.fn_eq (d := fx_law_checksum) (HD.obs_fn e 13) rfl
  have jcf : PySem.W.codeIn K (h_cd_law_checksum K) ("_law_checksum" : Str) = true := HD.dec c1 13
  have jcg : PySem.W.keepIn K (.ref (h_f_law_checksum K)) = true := HD.dec c1 14
  have jch : PySem.W.nsIn K mainGlobals ("_law_damaged" : Str) = some (some (.ref (h_f_law_damaged K))) := HD.dec c1 15
  have jci : K.lookup (h_f_law_damaged K) = some ⟨_, _, .func (PySem.W.fnOf ("_law_damaged" : Str) ("_law_damaged" : Str) (defArgs (top 35)) (defBody (top 35)) (defScope (top 35)) .none _ _ _ _ (h_cd_law_damaged K) _), _⟩ := HD.fn_eq (d := fx_law_damaged) (HD.obs_fn e 14) rfl
  have jcj : PySem.W.codeIn K (h_cd_law_damaged K) ("_law_damaged" : Str) = true := HD.dec c1 16
  have jck : PySem.W.keepIn K (.ref (h_f_law_damaged K)) = true := HD.dec c1 17
  have jcl : PySem.W.nsIn K mainGlobals ("pack_bytes" : Str) = some (some (.ref (h_f_pack_bytes K))) := HD.dec c1 18
  have jcm : K.lookup (h_f_pack_bytes K) = some ⟨_, _, .func (PySem.W.fnOf ("pack_bytes" : Str) ("pack_bytes" : Str) (defArgs (top 16)) (defBody (top 16)) (defScope (top 16)) .none _ _ _ _ (h_cd_pack_bytes K) _), _⟩ := HD.fn_eq (d := fx_pack_bytes) (HD.obs_fn e 15) rfl
  have jcn : PySem.W.codeIn K (h_cd_pack_bytes K) ("pack_bytes" : Str) = true := HD.dec c1 19
  have jco : PySem.W.keepIn K (.ref (h_f_pack_bytes K)) = true := HD.dec c1 20
  have jcp : PySem.W.nsIn K mainGlobals ("_law_get" : Str) = some (some (.ref (h_f_law_get K))) := HD.dec c1 21
  have jcq : K.lookup (h_f_law_get K) = some ⟨_, _, .func (PySem.W.fnOf ("_law_get" : Str) ("_law_get" : Str) (defArgs (top 32)) (defBody (top 32)) (defScope (top 32)) .none _ _ _ _ (h_cd_law_get K) _), _⟩ := HD.fn_eq (d := fx_law_get) (HD.obs_fn e 16) rfl
  have jcr : PySem.W.codeIn K (h_cd_law_get K) ("_law_get" : Str) = true := HD.dec c1 22
  have jcs : PySem.W.keepIn K (.ref (h_f_law_get K)) = true := HD.dec c1 23
  have jct : PySem.W.nsIn K mainGlobals ("_law_fault" : Str) = some (some (.ref (h_f_law_fault K))) := HD.dec c1 24
  have jcu : K.lookup (h_f_law_fault K) = some ⟨_, _, .func (PySem.W.fnOf ("_law_fault" : Str) ("_law_fault" : Str) (defArgs (top 33)) (defBody (top 33)) (defScope (top 33)) .none _ _ _ _ (h_cd_law_fault K) _), _⟩ := HD.fn_eq (d := fx_law_fault) (HD.obs_fn e 17) rfl
  have jcv : PySem.W.codeIn K (h_cd_law_fault K) ("_law_fault" : Str) = true := HD.dec c1 25
  have jcw : PySem.W.keepIn K (.ref (h_f_law_fault K)) = true := HD.dec c1 26
  have jcx : PySem.W.nsIn K mainGlobals ("_law_read" : Str) = some (some (.ref (h_f_law_read K))) := HD.dec c1 27
  have jcy : K.lookup (h_f_law_read K) = some ⟨_, _, .func (PySem.W.fnOf ("_law_read" : Str) ("_law_read" : Str) (defArgs (top 34)) (defBody (top 34)) (defScope (top 34)) .none _ _ _ _ (h_cd_law_read K) _), _⟩ := HD.fn_eq (d := fx_law_read) (HD.obs_fn e 18) rfl
  have jcz : PySem.W.codeIn K (h_cd_law_read K) ("_law_read" : Str) = true := HD.dec c1 28
  have jda : PySem.W.keepIn K (.ref (h_f_law_read K)) = true := HD.dec c1 29
  have jdb : PySem.W.nsIn K mainGlobals ("_law_outcome" : Str) = some (some (.ref (h_f_law_outcome K))) := HD.dec c2 0
  have jdc : K.lookup (h_f_law_outcome K) = some ⟨_, _, .func (PySem.W.fnOf ("_law_outcome" : Str) ("_law_outcome" : Str) (defArgs (top 27)) (defBody (top 27)) (defScope (top 27)) .none _ _ _ _ (h_cd_law_outcome K) _), _⟩ := HD.fn_eq (d := fx_law_outcome) (HD.obs_fn e 19) rfl
  have jdd : PySem.W.codeIn K (h_cd_law_outcome K) ("_law_outcome" : Str) = true := HD.dec c2 1
  have jde : PySem.W.keepIn K (.ref (h_f_law_outcome K)) = true := HD.dec c2 2
  have jdf : K.lookup (h_f_TownReader_fail K) = some ⟨_, _, .func (PySem.W.fnOf ("fail" : Str) ("TownReader.fail" : Str) (defArgs (inClass (top 21) 1)) (defBody (inClass (top 21) 1)) (defScope (inClass (top 21) 1)) .none _ _ _ _ (h_cd_TownReader_fail K) _), _⟩ := HD.fn_eq (d := fx_TownReader_fail) (HD.obs_fn e 20) rfl
  have jdg : PySem.W.codeIn K (h_cd_TownReader_fail K) ("TownReader.fail" : Str) = true := HD.dec c2 3
  have jdh : PySem.W.keepIn K (.ref (h_f_TownReader_fail K)) = true := HD.dec c2 4
  have jdi : K.lookup (h_f_TownReader_read K) = some ⟨_, _, .func (PySem.W.fnOf ("read" : Str) ("TownReader.read" : Str) (defArgs (inClass (top 21) 2)) (defBody (inClass (top 21) 2)) (defScope (inClass (top 21) 2)) .none _ _ _ _ (h_cd_TownReader_read K) _), _⟩ := HD.fn_eq (d := fx_TownReader_read) (HD.obs_fn e 21) rfl
  have jdj : PySem.W.codeIn K (h_cd_TownReader_read K) ("TownReader.read" : Str) = true := HD.dec c2 5
  have jdk : PySem.W.keepIn K (.ref (h_f_TownReader_read K)) = true := HD.dec c2 6
  have jdl : K.lookup (h_f_TownReader_read_life K) = some ⟨_, _, .func (PySem.W.fnOf ("read_life" : Str) ("TownReader.read_life" : Str) (defArgs (inClass (top 21) 3)) (defBody (inClass (top 21) 3)) (defScope (inClass (top 21) 3)) .none _ _ _ _ (h_cd_TownReader_read_life K) _), _⟩ := HD.fn_eq (d := fx_TownReader_read_life) (HD.obs_fn e 22) rfl
  have jdm : PySem.W.codeIn K (h_cd_TownReader_read_life K) ("TownReader.read_life" : Str) = true := HD.dec c2 7
  have jdn : PySem.W.keepIn K (.ref (h_f_TownReader_read_life K)) = true := HD.dec c2 8
  have jdo : K.lookup (h_f_TownReader_read_bridge K) = some ⟨_, _, .func (PySem.W.fnOf ("read_bridge" : Str) ("TownReader.read_bridge" : Str) (defArgs (inClass (top 21) 4)) (defBody (inClass (top 21) 4)) (defScope (inClass (top 21) 4)) .none _ _ _ _ (h_cd_TownReader_read_bridge K) _), _⟩ := HD.fn_eq (d := fx_TownReader_read_bridge) (HD.obs_fn e 23) rfl
  have jdp : PySem.W.codeIn K (h_cd_TownReader_read_bridge K) ("TownReader.read_bridge" : Str) = true := HD.dec c2 9
  have jdq : PySem.W.keepIn K (.ref (h_f_TownReader_read_bridge K)) = true := HD.dec c2 10
  have jdr : K.lookup (h_f_TownReader_read_town K) = some ⟨_, _, .func (PySem.W.fnOf ("read_town" : Str) ("TownReader.read_town" : Str) (defArgs (inClass (top 21) 5)) (defBody (inClass (top 21) 5)) (defScope (inClass (top 21) 5)) .none _ _ _ _ (h_cd_TownReader_read_town K) _), _⟩ := HD.fn_eq (d := fx_TownReader_read_town) (HD.obs_fn e 24) rfl
  have jds : PySem.W.codeIn K (h_cd_TownReader_read_town K) ("TownReader.read_town" : Str) = true := HD.dec c2 11
  have jdt : PySem.W.keepIn K (.ref (h_f_TownReader_read_town K)) = true := HD.dec c2 12
  have jdu : K.lookup (h_f_TownReader__init K) = some ⟨_, _, .func (PySem.W.fnOf ("__init__" : Str) ("TownReader.__init__" : Str) (defArgs (inClass (top 21) 0)) (defBody (inClass (top 21) 0)) (defScope (inClass (top 21) 0)) .none _ _ _ _ (h_cd_TownReader__init K) _), _⟩ := HD.fn_eq (d := fx_TownReader__init) (HD.obs_fn e 25) rfl
  have jdv : PySem.W.codeIn K (h_cd_TownReader__init K) ("TownReader.__init__" : Str) = true := HD.dec c2 13
  have jdw : PySem.W.keepIn K (.ref (h_f_TownReader__init K)) = true := HD.dec c2 14
  have jdx : PySem.W.isFn K (.ref (h_f_TownReader__init K)) = true := HD.dec c2 15
  have jdy : PySem.W.nsIn K mainGlobals ("decode_town" : Str) = some (some (.ref (h_f_decode_town K))) := HD.dec c2 16
  have jdz : K.lookup (h_f_decode_town K) = some ⟨_, _, .func (PySem.W.fnOf ("decode_town" : Str) ("decode_town" : Str) (defArgs (top 22)) (defBody (top 22)) (defScope (top 22)) .none _ _ _ _ (h_cd_decode_town K) _), _⟩ := HD.fn_eq (d := fx_decode_town) (HD.obs_fn e 26) rfl
  have jea : PySem.W.codeIn K (h_cd_decode_town K) ("decode_town" : Str) = true := HD.dec c2 17
  have jeb : PySem.W.keepIn K (.ref (h_f_decode_town K)) = true := HD.dec c2 18
  have jec : PySem.W.nsIn K mainGlobals ("law" : Str) = some (some (.ref (h_f_law K))) := HD.dec c2 19
  have jed : K.lookup (h_f_law K) = some ⟨_, _, .func (PySem.W.fnOf ("law" : Str) ("law" : Str) (defArgs (top 36)) (defBody (top 36)) (defScope (top 36)) .none _ _ _ _ (h_cd_law K) _), _⟩ := HD.fn_eq (d := fx_law) (HD.obs_fn e 27) rfl
  have jee : PySem.W.codeIn K (h_cd_law K) ("law" : Str) = true := HD.dec c2 20
  have jef : PySem.W.keepIn K (.ref (h_f_law K)) = true := HD.dec c2 21
  have jeg : PySem.W.readsIn K (h_C_Town K) (.type "type") = true := HD.dec c2 22
  have jeh : PySem.W.specialIn K (.ref (h_C_Town K)) "__getattribute__" = some (some (.builtin "type.__getattribute__")) := HD.dec c2 23
  have jei : PySem.W.readsIn K (h_C_BridgeError K) (.type "type") = true := HD.dec c2 24
  have jej : PySem.W.specialIn K (.ref (h_C_BridgeError K)) "__getattribute__" = some (some (.builtin "type.__getattribute__")) := HD.dec c2 25
  have jek : PySem.W.findCls K (.ref (h_C_Town K)) (.type "type") ("MAX_PLACES" : Str) = some (.val (.int 12 (h_w_Town_MAX_PLACES K))) := HD.cf c2 26
  have jel : PySem.W.findCls K (.ref (h_C_Town K)) (.type "type") ("MAX_LIFE" : Str) = some (.val (.int 1000000000000000000 (h_w_Town_MAX_LIFE K))) := HD.cf c2 27
  have jem : PySem.W.findCls K (.ref (h_C_Town K)) (.type "type") ("MAX_BRIDGES" : Str) = some (.val (.int 24 (h_w_Town_MAX_BRIDGES K))) := HD.cf c2 28
  have jen : PySem.W.findCls K (.ref (h_C_Town K)) (.type "type") ("is_bridge" : Str) = some (.get (.builtin "staticmethod.__get__") (.ref (h_p_Town_is_bridge K)) .none (.ref (h_C_Town K))) := HD.cf c2 29
  have jeo : PySem.W.recIn K (h_p_Town_is_bridge K) "staticmethod" = some (.ref (h_f_Town_is_bridge K) :: (h_rs_Town_is_bridge K)) := HD.dec c3 0
  have jep : PySem.W.plainGet K (h_C_Town K) Str.empty = true := HD.dec c3 1
  have jeq : PySem.W.hasDictIn K (h_C_Town K) = true := HD.dec c3 2
  have jer : PySem.W.plainOver K (h_C_Town K) = true := HD.dec c3 3
  have jes : PySem.W.findIn K (.ref (h_C_Town K)) "__setattr__" = some (some (.builtin "object.__setattr__")) := HD.dec c3 4
  have jet : PySem.W.makesIn K (h_C_Town K) = true := HD.dec c3 5
  have jeu : PySem.W.keepIn K (.ref (h_C_Town K)) = true := HD.dec c3 6
  have jev : PySem.W.findIn K (.ref (h_C_Town K)) "__init__" = some (some (.ref (h_f_Town__init K))) := HD.dec c3 7
  have jew : PySem.W.plainGet K (h_C_TownReader K) Str.empty = true := HD.dec c3 8
  have jex : PySem.W.hasDictIn K (h_C_TownReader K) = true := HD.dec c3 9
  have jey : PySem.W.plainOver K (h_C_TownReader K) = true := HD.dec c3 10
  have jez : PySem.W.findIn K (.ref (h_C_TownReader K)) "__setattr__" = some (some (.builtin "object.__setattr__")) := HD.dec c3 11
  have jfa : PySem.W.makesIn K (h_C_TownReader K) = true := HD.dec c3 12
  have jfb : PySem.W.keepIn K (.ref (h_C_TownReader K)) = true := HD.dec c3 13
  have jfc : PySem.W.findIn K (.ref (h_C_TownReader K)) "__init__" = some (some (.ref (h_f_TownReader__init K))) := HD.dec c3 14
  have jfd : PySem.W.findIn K (.ref (h_C_Town K)) ("size" : Str) = some none := HD.dec c3 15
  have jfe : PySem.W.findIn K (.ref (h_C_Town K)) ("links" : Str) = some none := HD.dec c3 16
  have jff : PySem.W.findIn K (.ref (h_C_InvalidData K)) ("offset" : Str) = some none := HD.dec c3 17
  have jfg : PySem.W.findIn K (.ref (h_C_TownReader K)) ("octets" : Str) = some none := HD.dec c3 18
  have jfh : PySem.W.findIn K (.ref (h_C_TownReader K)) ("cursor" : Str) = some none := HD.dec c3 19
  have jfi : PySem.W.findIn K (.ref (h_C_InvalidTown K)) ("part" : Str) = some none := HD.dec c3 20
  have jfj : PySem.W.findIn K (.ref (h_C_InvalidTown K)) ("index" : Str) = some none := HD.dec c3 21
  have jfk : PySem.W.findIn K (.ref (h_C_InvalidData K)) "__getattribute__" = some (some (.builtin "BaseException.__getattribute__")) := HD.dec c3 22
  have jfl : PySem.W.findIn K (.ref (h_C_InvalidData K)) "__getattr__" = some none := HD.dec c3 23
  have jfm : PySem.W.findIn K (.ref (h_C_InvalidCount K)) "__getattribute__" = some (some (.builtin "BaseException.__getattribute__")) := HD.dec c3 24
  have jfn : PySem.W.findIn K (.ref (h_C_InvalidCount K)) "__getattr__" = some none := HD.dec c3 25
  have jfo : PySem.W.findIn K (.ref (h_C_InvalidTown K)) "__getattribute__" = some (some (.builtin "BaseException.__getattribute__")) := HD.dec c3 26
  have jfp : PySem.W.findIn K (.ref (h_C_InvalidTown K)) "__getattr__" = some none := HD.dec c3 27
  have jfq : PySem.W.subIn K (.ref (h_C_InvalidData K)) (.type "BaseException") = some true := HD.dec c3 28
  have jfr : PySem.W.hasDictIn K (h_C_InvalidData K) = true := HD.dec c3 29
  have jfs : PySem.W.typeIn K (.ref (h_C_InvalidData K)) = some (.type "type") := HD.dec c4 0
  have jft : PySem.W.subIn K (.ref (h_C_InvalidCount K)) (.type "BaseException") = some true := HD.dec c4 1
  have jfu : PySem.W.hasDictIn K (h_C_InvalidCount K) = true := HD.dec c4 2
  have jfv : PySem.W.typeIn K (.ref (h_C_InvalidCount K)) = some (.type "type") := HD.dec c4 3
  have jfw : PySem.W.subIn K (.ref (h_C_InvalidTown K)) (.type "BaseException") = some true := HD.dec c4 4
  have jfx : PySem.W.hasDictIn K (h_C_InvalidTown K) = true := HD.dec c4 5
  have jfy : PySem.W.typeIn K (.ref (h_C_InvalidTown K)) = some (.type "type") := HD.dec c4 6
  have jfz : PySem.W.findIn K (.ref (h_C_Town K)) ("bridges" : Str) = some (some (.ref (h_a_Town_bridges K))) := HD.dec c4 7
  have jga : PySem.W.specialIn K (.ref (h_a_Town_bridges K)) "__get__" = some (some (.builtin "property.__get__")) := HD.dec c4 8
  have jgb : PySem.W.takesIn K (.ref (h_a_Town_bridges K)) = some true := HD.dec c4 9
  have jgc : PySem.W.recIn K (h_a_Town_bridges K) "property" = some (.ref (h_f_Town_bridges K) :: (h_rp_Town_bridges K)) := HD.dec c4 10
  have jgd : PySem.W.findIn K (.ref (h_C_Town K)) ("place_count" : Str) = some (some (.ref (h_a_Town_place_count K))) := HD.dec c4 11
  have jge : PySem.W.specialIn K (.ref (h_a_Town_place_count K)) "__get__" = some (some (.builtin "property.__get__")) := HD.dec c4 12
  have jgf : PySem.W.takesIn K (.ref (h_a_Town_place_count K)) = some true := HD.dec c4 13
  have jgg : PySem.W.recIn K (h_a_Town_place_count K) "property" = some (.ref (h_f_Town_place_count K) :: (h_rp_Town_place_count K)) := HD.dec c4 14
  have jgh : PySem.W.findIn K (.ref (h_C_TownReader K)) ("fail" : Str) = some (some (.ref (h_f_TownReader_fail K))) := HD.dec c4 15
  have jgi : PySem.W.isFn K (.ref (h_f_TownReader_fail K)) = true := HD.dec c4 16
  have jgj : PySem.W.findIn K (.ref (h_C_TownReader K)) ("read" : Str) = some (some (.ref (h_f_TownReader_read K))) := HD.dec c4 17
  have jgk : PySem.W.isFn K (.ref (h_f_TownReader_read K)) = true := HD.dec c4 18
  have jgl : PySem.W.findIn K (.ref (h_C_TownReader K)) ("read_life" : Str) = some (some (.ref (h_f_TownReader_read_life K))) := HD.dec c4 19
  have jgm : PySem.W.isFn K (.ref (h_f_TownReader_read_life K)) = true := HD.dec c4 20
  have jgn : PySem.W.findIn K (.ref (h_C_TownReader K)) ("read_bridge" : Str) = some (some (.ref (h_f_TownReader_read_bridge K))) := HD.dec c4 21
  have jgo : PySem.W.isFn K (.ref (h_f_TownReader_read_bridge K)) = true := HD.dec c4 22
  have jgp : PySem.W.findIn K (.ref (h_C_TownReader K)) ("read_town" : Str) = some (some (.ref (h_f_TownReader_read_town K))) := HD.dec c4 23
  have jgq : PySem.W.isFn K (.ref (h_f_TownReader_read_town K)) = true := HD.dec c4 24
  have jgr : (h_C_InvalidData K) ≠ (h_C_InvalidCount K) := HD.dec c4 25
  have jgs : PySem.W.nsIn K mainGlobals ("MAX_LENGTH" : Str) = some (some (.int 99 (h_t_MAX_LENGTH K))) := HD.dec c4 26
  have jgt : PySem.W.nsIn K mainGlobals ("HEAD" : Str) = some (some (.int 84 (h_t_HEAD K))) := HD.dec c4 27
  have jgu : PySem.W.nsIn K mainGlobals ("GROUP" : Str) = some (some (.int 128 (h_t_GROUP K))) := HD.dec c4 28
  have jgv : PySem.W.nsIn K mainGlobals ("START" : Str) = some (some (.int 5 (h_t_START K))) := HD.dec c4 29
  have jgw : PySem.W.nsIn K mainGlobals ("FACTOR" : Str) = some (some (.int 41 (h_t_FACTOR K))) := HD.dec c5 0
  have jgx : PySem.W.nsIn K mainGlobals ("MODULUS" : Str) = some (some (.int 65521 (h_t_MODULUS K))) := HD.dec c5 1
  have jgy : PySem.W.nsIn K mainGlobals ("BYTE" : Str) = some (some (.int 256 (h_t_BYTE K))) := HD.dec c5 2
  have jgz : PySem.W.nsIn K mainGlobals ("range" : Str) = some none := HD.dec c5 3
  have jha : PySem.W.nsIn K mainGlobals ("int" : Str) = some none := HD.dec c5 4
  have jhb : PySem.W.nsIn K mainGlobals ("len" : Str) = some none := HD.dec c5 5
  have jhc : PySem.W.nsIn K mainGlobals ("tuple" : Str) = some none := HD.dec c5 6
  have jhd : PySem.W.nsIn K mainGlobals ("enumerate" : Str) = some none := HD.dec c5 7
  have jhe : PySem.W.nsIn K mainGlobals ("list" : Str) = some none := HD.dec c5 8
  have jhf : PySem.W.nsIn K mainGlobals ("bytes" : Str) = some none := HD.dec c5 9
  have jhg : PySem.W.nsIn K mainGlobals ("all" : Str) = some none := HD.dec c5 10
  have jhh : PySem.W.nsIn K mainGlobals ("isinstance" : Str) = some none := HD.dec c5 11
  have jhi : PySem.W.findCls K (.ref (h_C_BridgeError K)) (.type "type") "__init__" = some (.val (.builtin "ValueError.__init__")) := HD.cf c5 12
  have jhj : PySem.W.keepIn K (.ref (h_C_InvalidTown K)) = true := HD.dec c5 13
  have jhk : K.lookup (h_f_InvalidTown__init K) = some ⟨_, _, .func (PySem.W.fnOf ("__init__" : Str) ("InvalidTown.__init__" : Str) (defArgs (inClass (top 3) 0)) (defBody (inClass (top 3) 0)) (defScope (inClass (top 3) 0)) .none _ _ _ _ (h_cd_InvalidTown__init K) _), _⟩ := HD.fn_eq (d := fx_InvalidTown__init) (HD.obs_fn e 28) rfl
  have jhl : PySem.W.codeIn K (h_cd_InvalidTown__init K) ("InvalidTown.__init__" : Str) = true := HD.dec c5 14
  have jhm : PySem.W.keepIn K (.ref (h_f_InvalidTown__init K)) = true := HD.dec c5 15
  have jhn : PySem.W.findIn K (.ref (h_C_InvalidTown K)) "__init__" = some (some (.ref (h_f_InvalidTown__init K))) := HD.dec c5 16
  have jho : PySem.W.typeIn K (.ref (h_f_InvalidTown__init K)) = some (.type "function") := HD.dec c5 17
  have jhp : PySem.W.findIn K (.ref (h_C_InvalidTown K)) "__setattr__" = some (some (.builtin "object.__setattr__")) := HD.dec c5 18
  obtain ⟨_, _, _, _, _, _, _, _, _, _, _, _, _, _, _, ox_InvalidTown, bm_InvalidTown⟩ := HD.xcl (C := (h_C_InvalidTown K)) c5 19
  have jhq : PySem.W.keepIn K (.ref (h_C_InvalidCount K)) = true := HD.dec c5 20
  have jhr : PySem.W.excIn K (h_C_InvalidCount K) PySem.HandSPX.veTail "ValueError.__new__" = true := HD.dec c5 21
  have jhs : PySem.W.keepIn K (.ref (h_C_InvalidData K)) = true := HD.dec c5 22
  have jht : K.lookup (h_f_InvalidData__init K) = some ⟨_, _, .func (PySem.W.fnOf ("__init__" : Str) ("InvalidData.__init__" : Str) (defArgs (inClass (top 5) 0)) (defBody (inClass (top 5) 0)) (defScope (inClass (top 5) 0)) .none _ _ _ _ (h_cd_InvalidData__init K) _), _⟩ := HD.fn_eq (d := fx_InvalidData__init) (HD.obs_fn e 29) rfl
  have jhu : PySem.W.codeIn K (h_cd_InvalidData__init K) ("InvalidData.__init__" : Str) = true := HD.dec c5 23
  have jhv : PySem.W.keepIn K (.ref (h_f_InvalidData__init K)) = true := HD.dec c5 24
  have jhw : PySem.W.findIn K (.ref (h_C_InvalidData K)) "__init__" = some (some (.ref (h_f_InvalidData__init K))) := HD.dec c5 25
  have jhx : PySem.W.typeIn K (.ref (h_f_InvalidData__init K)) = some (.type "function") := HD.dec c5 26
  have jhy : PySem.W.findIn K (.ref (h_C_InvalidData K)) "__setattr__" = some (some (.builtin "object.__setattr__")) := HD.dec c5 27
  obtain ⟨_, _, _, _, _, _, _, _, _, _, _, _, _, _, _, ox_InvalidData, bm_InvalidData⟩ := HD.xcl (C := (h_C_InvalidData K)) c5 28
  have jhz : PySem.W.findIn K (.ref (h_C_InvalidCount K)) "__class__" = some (some (.builtin "object.__class__")) := HD.dec c5 29
  have jia : PySem.W.mroIn K (h_C_InvalidCount K) (.type "object") = some true := HD.dec c6 0
  have jib : PySem.W.subIn K (.ref (h_C_InvalidCount K)) (.ref (h_C_InvalidCount K)) = some true := HD.dec c6 1
  have jic : PySem.W.subIn K (.ref (h_C_InvalidCount K)) (.ref (h_C_InvalidData K)) = some false := HD.dec c6 2
  have jid : PySem.W.findIn K (.ref (h_C_InvalidData K)) "__class__" = some (some (.builtin "object.__class__")) := HD.dec c6 3
  have jie : PySem.W.mroIn K (h_C_InvalidData K) (.type "object") = some true := HD.dec c6 4
  have jif : PySem.W.subIn K (.ref (h_C_InvalidData K)) (.ref (h_C_InvalidData K)) = some true := HD.dec c6 5
  have jig : PySem.W.subIn K (.ref (h_C_InvalidData K)) (.ref (h_C_InvalidCount K)) = some false := HD.dec c6 6
  have jih : PySem.W.findIn K (.ref (h_C_InvalidTown K)) "__class__" = some (some (.builtin "object.__class__")) := HD.dec c6 7
  have jii : PySem.W.mroIn K (h_C_InvalidTown K) (.type "object") = some true := HD.dec c6 8
  have jij : PySem.W.subIn K (.ref (h_C_InvalidTown K)) (.ref (h_C_InvalidTown K)) = some true := HD.dec c6 9
  have jik : PySem.W.subIn K (.ref (h_C_InvalidTown K)) (.ref (h_C_InvalidCount K)) = some false := HD.dec c6 10
  have jil : PySem.W.subIn K (.ref (h_C_InvalidTown K)) (.ref (h_C_InvalidData K)) = some false := HD.dec c6 11
  have jim : PySem.W.findIn K (.ref (h_C_Town K)) "__class__" = some (some (.builtin "object.__class__")) := HD.dec c6 12
  have jin : PySem.W.mroIn K (h_C_Town K) (.type "object") = some true := HD.dec c6 13
  have jio : PySem.W.subIn K (.ref (h_C_Town K)) (.type "tuple") = some false := HD.dec c6 14
  have jip : PySem.W.specialIn K (.builtin "object.__class__") "__get__" = some (some (.builtin "getset_descriptor.__get__")) := HD.dec c6 15
  have jiq : PySem.W.takesIn K (.builtin "object.__class__") = some true := HD.dec c6 16
  have jir : (h_cd_law K) = .ref (h_lc_law K) := HD.dec c6 17
  have jis := HD.cod (a := (h_lc_law K)) c6 18
  have jit : (h_lvs_law K)[11]? = some (.ref (h_lP_law K)) := HD.dec c6 19
  have jiu : (h_lvs_law K).getD 11 .none = .ref (h_lP_law K) := HD.dec c6 20
  have jiv : (h_lvs_law K).getD 18 .none = .str (h_lfile_law K) (h_ltf_law K) := HD.dec c6 21
  have jiw : (h_lvs_law K).getD 7 .none = .int (h_lfl_law K) (h_ltg_law K) := HD.dec c6 22
  have jix : (h_lvs_law K).getD 9 .none = .bool (h_lin_law K) := HD.dec c6 23
  have jiy : (h_lvs_law K).getD 10 .none = .int (h_ltx_law K) (h_ltt_law K) := HD.dec c6 24
  have jiz : K.lookup (h_lP_law K) = none := HD.no c6 25
  letI : TheK := ⟨K⟩
  exact all_mk KX G hfa own ia0 ib0 ic0 id0 ie0 if0 ig0 ih0 ii0 ij0 ik0 il0 im0 in0 io0 ip0 iq0 ir0 is0 it0 iu0 iv0 iw0 ix0 iy0 iz0 jba jbb jbc jbd jbe jbf jbg jbh jbi jbj jbk jbl jbm jbn jbo jbp jbq jbr jbs jbt jbu jbv jbw jbx jby jbz jca jcb jcc jcd jce jcf jcg jch jci jcj jck jcl jcm jcn jco jcp jcq jcr jcs jct jcu jcv jcw jcx jcy jcz jda jdb jdc jdd jde jdf jdg jdh jdi jdj jdk jdl jdm jdn jdo jdp jdq jdr jds jdt jdu jdv jdw jdx jdy jdz jea jeb jec jed jee jef jeg jeh jei jej jek jel jem jen jeo jep jeq jer jes jet jeu jev jew jex jey jez jfa jfb jfc jfd jfe jff jfg jfh jfi jfj jfk jfl jfm jfn jfo jfp jfq jfr jfs jft jfu jfv jfw jfx jfy jfz jga jgb jgc jgd jge jgf jgg jgh jgi jgj jgk jgl jgm jgn jgo jgp jgq jgr jgs jgt jgu jgv jgw jgx jgy jgz jha jhb jhc jhd jhe jhf jhg jhh jhi jhj jhk jhl jhm jhn jho jhp ox_InvalidTown bm_InvalidTown jhq jhr jhs jht jhu jhv jhw jhx jhy ox_InvalidData bm_InvalidData jhz jia jib jic jid jie jif jig jih jii jij jik jil jim jin jio jip jiq jir jis jit jiu jiv jiw jix jiy jiz
end Law
open PySem PySem.W PySem.Calls PyProof.Rows
set_option maxRecDepth 100000 in
set_option maxHeartbeats 0 in
theorem PySem.Challenge.cw_wornbridges_k46_bytes_of_towns_holds : PySem.Challenge.rw_wornbridges_k46_bytes_of_towns.Holds := by
  w_on; o_law
  refine HandSHeadRun.head_any (r := OpenLaw.row PySem.Challenge.rw_wornbridges_k46_bytes_of_towns) (q := view (OpenLaw.row PySem.Challenge.rw_wornbridges_k46_bytes_of_towns).prog [36]) (H := Law.hkX) (ob := Law.obX) (M := 40000) (loose := Law.looseX) (d := HandSHeadRun.topDef (OpenLaw.row PySem.Challenge.rw_wornbridges_k46_bytes_of_towns).prog 36) (kwd := []) HD.obT_eq
    (by kernel_rfl) (fun s => by kernel_rfl) Law.runX (by kernel_rfl) (by kernel_rfl) (by kernel_rfl) (by rfl) (by first | assumption | decide +kernel) (by decide +kernel) ⟨rfl, rfl, rfl, rfl, rfl, by decide +kernel⟩ ?hw ?hc
  case hw => w_witness2
  case hc =>
    refine HD.walk_tabsE (l := PySem.Challenge.rw_wornbridges_k46_bytes_of_towns) (n := 63) (k := 13) (x := "_law_script") (CX := fun w => L2.CX PySem.Challenge.rw_wornbridges_k46_bytes_of_towns.prog w) Law.lamNames rfl (by decide) (by kernel_rfl) ⟨rfl, by decide, by decide⟩ (by first | rfl | decide +kernel) ?F (fun _ _ _ _ _ z => by obtain ⟨_, _, _, _, _, _, _, _, _, _, _, _, q⟩ := z; exact q)
    intro w mg fa h Y G hmg0
    obtain ⟨K, KX, c⟩ := Y
    have hmg : mg ("law" : PySem.Str) = some (.ref fa) := by
      have e : (HandSHeadRun.topDef (OpenLaw.row PySem.Challenge.rw_wornbridges_k46_bytes_of_towns).prog 36).name = ("law" : PySem.Str) := by kernel_rfl
      rw [← e]
      exact hmg0
    exact ⟨K, KX, fun own => Law.law_here KX G hmg own c⟩
