import PyProof.Rows.All
import Wide.All
import OpenK.AllK
import Wide.FinOn
import HandS.ForMost
import HandS.ForExc
import HandS.Defaults
import HandS.HeadHook2
import HandS.EndBits
import HandS.Evl
import KE.DataEq
import HandS.ExcInit
import HandS.Lambda
import HandS.Nested
import HandS.Wide
import HandS.Style
import HandS.IsInst
import HandS.Text
import HandS.List
import HandS.Small
import PyProof.Rows.SeqMore
import HandS.WideBits
import HandS.Dict
import HandS.SetFor
import HandS.TupAny
import KE.SortData
import HandS.Exc
import KE.KExcInit
import HandS.ExcField
import KE.KExcIs
import KE.KExcMake
import HandS.DeepEq
import HandS.Property
import KE.KOpsOwn
import PyProof.InstEq
import HandS.DictComp
import HandS.Zip
import KE.KDictList
import KE.OsSortAny
import KE.KDictSum
import HandS.TryOnly
import HandS.FStr
import KE.KStateDown
import HandS.Base
import HandS.Call
import HandS.Ends
import HandS.More
import HandS.Words
import HandS.WordsExc
import HandS.Head0
import HandS.Head1
import HandS.Head2
import HandS.HeadEnd
import HandS.HeadHook1
import PySem.Challenge.RW_surepins_k90_ends_in_texts
import PyProof.Rows.StrFin3
set_option Elab.async false
set_option linter.all false
set_option maxRecDepth 100000
/-! Dm, part 0: defs that are called where nothing is being shown (no repr runs around), and the law's end over such a def. -/
namespace Dm
open PySem PySem.Spec PyProof.Rows L2
/-- a def keeps its promise wherever no repr is on its way -/
structure FnG (P : Program) (w : World) (K : PySem.W.Frag) (mg : Str → Option Value) (bs : Heap) (k : Nat) (f : Addr) (fd : FuncData) (ps : List Str) (sp : Sp) : Prop where
  len : ∀ vs H Q E, sp vs H Q E → vs.length = ps.length
  run : ∀ (A : Around) (fr : List Env) (s : Shared) (H : Hp) (av : Args) (us : List Value) (vs : List V) (Q : VK) (E : XK), A.guards = some [] → Room k A → Env0 P w K mg bs A fr s H → BindsTo s fd av (ps.zip us) → Vals vs us → sp vs H Q E →
    codeAny (model P w) A (.call (.ref f) av) (CR (L2.CX P w) fr P w H s Q E) s
theorem FnG.mono {P : Program} {w : World} {K : PySem.W.Frag} {mg : Str → Option Value} {bs : Heap} {j k : Nat} {f : Addr} {fd : FuncData} {ps : List Str} {sp : Sp} (F : FnG P w K mg bs j f fd ps sp) (h : j ≤ k) : FnG P w K mg bs k f fd ps sp :=
  ⟨F.len, fun A fr s H av us vs Q E hG rm => F.run A fr s H av us vs Q E hG (rm.mono h)⟩
theorem fnG_of {P : Program} {w : World} {K : PySem.W.Frag} {mg : Str → Option Value} {bs : Heap} {k : Nat} {f : Addr} {nm qn : Str} {pr : Arguments} {bd : List Stmt} {sc : Scope} {x1 x2 x3 x4 cv x5 x6 : Value} {n1 n2 : Option Addr}
    {sl : Array (Option Value)} {N ps : List Str} {sp : Sp} (found : K.lookup f = some ⟨x6, n2, .func (PySem.W.fnOf nm qn pr bd sc x1 x2 x3 x4 n1 cv x5), sl⟩) (code : PySem.W.codeIn K cv qn = true) (S : FnScope N ps sc)
    (pl : ∀ vs H Q E, sp vs H Q E → vs.length = ps.length)
    (inside : ∀ (A : Around) (fr : List Env) (s : Shared) (H : Hp) (vs : List V) (Q : VK) (E : XK), A.guards = some [] → Room k (A.deeper (envOfC qn sc s.heap.objs.size f cv)) → sp vs H Q E →
      ∃ t, PSs (cxOf (L2.CX P w) P w K mg bs N qn sc f cv A fr s H E) bd t ∧ t { nx := fun _ H' => Q .non H', rt := Q } (L2.start N vs) H) :
    FnG P w K mg bs (k + 1) f (PySem.W.fnOf nm qn pr bd sc x1 x2 x3 x4 n1 cv x5) ps sp := by
  constructor
  · exact pl
  intro A fr s H av us vs Q E hG rm env0 hbt rel prom
  have old : ∀ b o, bs.get? b = some o → s.heap.get? b = some o := fun b o e => (env0.bs b o e).1
  have inK : K.In s.heap := env0.mod.kin.keeps old
  have noLim : s.heap.NoLimit := env0.mod.nolimit.keeps old
  have pk : ∀ y ∈ ps.zip us, sc.names.lookup y.1 = some .local ∨ (sc.names.lookup y.1 = some .cell ∧ ((cellsFrom (s.heap.objs.size + 1) sc.names []).lookup y.1).isSome = true) := by
    rintro ⟨a, b⟩ hm
    exact (S.par a (List.of_mem_zip hm).1).elim .inl fun z => .inr ⟨z, PySem.W.cellsFrom_some _ _ _ (.inl z)⟩
  refine codeAny_call_function rm.depth (inK _ _ found) rfl S.co S.gen rfl (PySem.W.codeRec_of inK code) (hbt _ _ _ _ ?_)
  refine wpAny_newFunctionEnv_cells S.kind pk fun en hen st1 inCall => ?_
  subst hen
  refine ⟨noLim.keeps inCall.toInCall.keep, codeAny_func ?_⟩
  obtain ⟨t, body, goes⟩ := inside A fr s H vs Q E hG (rm.deeper _) prom
  have J0 := inv_start (CX := L2.CX P w) (E := E) S rm.hd env0 (pl _ _ _ _ prom) rel inCall
  refine wpAny_mono (body.run [] st1 (L2.start N vs) H _ J0 goes) ?_ fun _ _ z => z
  intro fl st2 res
  match fl, res with
  | .ret u, ⟨v, _, H', J, rv, q⟩ => exact ⟨v, H', J.os, J.bare, J.base, J.hok, rv, q⟩
  | .next, ⟨_, H', J, q⟩ => exact ⟨V.non, H', J.os, J.bare, J.base, J.hok, rfl, q⟩
  | .brk, ⟨_, _, _, q⟩ => exact q.elim
  | .cont, ⟨_, _, _, q⟩ => exact q.elim

/-- an empty table of code objects -/
abbrev tab0 : Obj := { cls := .none, data := .fields #[] }
/-- the module of the machine's own names -/
def BmAt (bs : Heap) (mg : Str → Option Value) : Prop := ∃ (q : Addr) (ob : Obj), mg "__builtins__" = some (.ref q) ∧ q ≠ builtinsNs ∧ q ≠ mainGlobals ∧ bs.get? q = some ob ∧ ob.cls = .type "module" ∧ ob.dict = some builtinsNs ∧ ob.data = .plain
/-- what a law's def may lean on -/
structure Bs (K : PySem.W.Frag) (mg : Str → Option Value) (ts : List Addr) (bs : Heap) : Prop where
  kin : K.In bs
  ns : bs.Ns mainGlobals mg
  sm : ∃ mm, bs.Ns sysModules mm
  bm : BmAt bs mg
  no : ∀ t ∈ ts, bs.get? t = none
/-- the script and the tables alone are known -/
def OnlyT (ts : List Addr) (H : Hp) : Prop := (∀ t ∈ ts, H t = some (.tbl #[])) ∧ ∀ b, H b = none ∨ (b ∈ ts ∧ H b = some (.tbl #[])) ∨ ∃ ob xs, H b = some (.frz ob (.lst xs))
/-- the law's call, from such a promise -/
theorem law_callG {P : Program} {w : World} {K : PySem.W.Frag} {mg mb : Str → Option Value} {k : Nat} {fa a : Addr} {fd : FuncData} {x : Str} {sp : Sp} {s : Shared} {vs : List Value} {ns : List Int} {ts : List Addr}
    (inK : K.In s.heap) (hmg : s.heap.Ns mainGlobals mg) (hmb : s.heap.Ns builtinsNs mb) (hbt : ∀ x : Str, x ≠ "__name__" → mb x = bootBuiltins x) (noLim : s.heap.NoLimit) (mods : ∃ mm, s.heap.Ns sysModules mm) (noGen : s.gens = #[])
    (tabs : ∀ t ∈ ts, s.heap.get? t = some tab0) (tabK : ∀ t ∈ ts, K.lookup t = none) (tabC : ∀ t ∈ ts, isCodeTable s.heap t)
    (mainM : ∃ (q : Addr) (ob : Obj), mg "__builtins__" = some (.ref q) ∧ q ≠ builtinsNs ∧ s.heap.get? q = some ob ∧ ob.cls = .type "module" ∧ ob.dict = some builtinsNs ∧ ob.data = .plain)
    (obj : s.heap.get? a = some { cls := .type "list", data := .seq vs.toArray }) (inums : IntsAre vs ns) (small : ns.length ≤ sizeLine) (rm : Room k callerA)
    (F : ∀ bs : Heap, Bs K mg ts bs → FnG P w K mg bs k fa fd [x] sp) (bind1 : ∀ (s : Shared) (u : Value), BindsTo s fd ⟨[u], []⟩ [(x, u)])
    (prom : ∀ H : Hp, OnlyT ts H → SqL K H a (ns.map V.int) → sp [.ref a] H (fun v _ => v = .bl true) fun _ _ _ => False) (noX : ∀ H e s', L2.CX P w [] H s (fun _ _ _ => False) e s' → False) :
    codeAny (model P w) callerA (.call (.ref fa) ⟨[.ref a], []⟩) (fun r s' => r = .ok (.ret (.bool true)) ∧ OldK s.heap s'.heap ∧ s'.os = s.os ∧ AllBare s'.gens) s := by
  have rel := vals_ints inums
  have len := inums.length
  have notTab : a ∉ ts := fun z => by
    have e := tabs a z
    rw [obj] at e
    cases e
  have go : ∀ H : Hp, OnlyT ts H → SqL K H a (ns.map V.int) → HOk P w H s.heap → (∀ b, H b ≠ none → b = a ∨ b ∈ ts) → (H a ≠ none → K.lookup a = none) →
      codeAny (model P w) callerA (.call (.ref fa) ⟨[.ref a], []⟩) (fun r s' => r = .ok (.ret (.bool true)) ∧ OldK s.heap s'.heap ∧ s'.os = s.os ∧ AllBare s'.gens) s := by
    intro H only sq ok alone notK
    have other : ∀ {b : Addr} {o : Obj}, s.heap.get? b = some o → (∀ us n, o.data ≠ .seq us n) → o.data ≠ .fields #[] → H b = none := by
      intro b o e d1 d2
      by_cases z : H b = none
      · exact z
      · rcases alone b z with q | q
        · subst q
          rw [obj] at e
          cases e
          exact absurd rfl (d1 _ _)
        · rw [tabs b q] at e
          cases e
          exact absurd rfl d2
    have noDict : ∀ {b : Addr} {o : Obj} {es : Array DictEntry} {ep : Nat}, s.heap.get? b = some o → o.data = .dict es ep → H b = none := by
      intro b o es ep e d
      exact other e (fun us n z => by rw [d] at z; cases z) fun z => by rw [d] at z; cases z
    have nsH : ∀ {b : Addr} {mm : Str → Option Value}, s.heap.Ns b mm → (hidT s.heap H).Ns b mm := by
      rintro b mm ⟨o, es, ep, e, d, r⟩
      exact ⟨o, es, ep, hidT_get e (noDict e d), d, r⟩
    have kIn : K.In (hidT s.heap H) := by
      intro b o e
      refine hidT_get (inK b o e) ?_
      by_cases z : H b = none
      · exact z
      · rcases alone b z with q | q
        · subst q
          rw [notK z] at e
          cases e
        · rw [tabK b q] at e
          cases e
    have md : Mod K mg (hidT s.heap H) := by
      obtain ⟨mc, l1, l2⟩ := noLim
      exact ⟨kIn, nsH hmg, ⟨mb, nsH hmb, hbt⟩, ⟨mc, nsH l1, l2⟩⟩
    have hideNo : ∀ t ∈ ts, (hidT s.heap H).get? t = none := fun t ht => by
      cases e : (hidT s.heap H).get? t with
      | none => rfl
      | some o =>
        have := (of_hidT e).2
        rw [only.1 t ht] at this
        cases this
    have bm : BmAt (hidT s.heap H) mg := by
      obtain ⟨q, ob, b1, b2, b3, b4, b5, b6⟩ := mainM
      refine ⟨q, ob, b1, b2, fun z => ?_, hidT_get b3 (other b3 (fun us n z => by rw [b6] at z; cases z) fun z => by rw [b6] at z; cases z), b4, b5, b6⟩
      obtain ⟨o, es, ep, e, d, _⟩ := hmg
      rw [z, e] at b3
      cases b3
      rw [d] at b6
      cases b6
    have en : Env0 P w K mg (hidT s.heap H) callerA [] s H := ⟨rfl, md, fun b o e => of_hidT e, Nat.le_of_eq (hidT_size _ _), trivial, fun b hb => absurd hb List.not_mem_nil, ok, .of_eq noGen⟩
    have run := (F _ ⟨kIn, nsH hmg, (let ⟨mm, z⟩ := mods; ⟨mm, nsH z⟩), bm, hideNo⟩).run callerA [] s H ⟨[.ref a], []⟩ [.ref a] [.ref a] _ _ rfl rm en (bind1 s (.ref a)) (.cons rfl .nil) (prom H only sq)
    refine codeAny_mono run fun r s' h => ?_
    match r, h with
    | .error e, h => exact (noX H e s' h).elim
    | .ok .next, h => exact h.elim
    | .ok .brk, h => exact h.elim
    | .ok .cont, h => exact h.elim
    | .ok (.ret u), ⟨v, H', os, bare, un, ok2, rv, q⟩ =>
      have vq : v = .bl true := q
      subst vq
      have uq : u = Value.bool true := rv
      subst uq
      have still : ∀ b o, b ∉ ts → s.heap.get? b = some o → s'.heap.get? b = some o := fun b o nb e => by
        rcases only.2 b with z | ⟨z, _⟩ | ⟨ob, xs, z⟩
        · exact un.keep b o e z List.not_mem_nil List.not_mem_nil
        · exact absurd z nb
        · have e1 := (ok b _ z).1
          have e2 := (ok2 b _ (un.frzs b ob _ z)).1
          rw [e] at e1
          cases e1
          exact e2
      have grew : ∀ t ∈ ts, ∃ more : Array Value, s'.heap.get? t = some { cls := .none, data := .fields more } := fun t ht => by
        obtain ⟨more, z⟩ := un.tbls t #[] (only.1 t ht)
        exact ⟨_, ok2 t _ z⟩
      refine ⟨rfl, ⟨fun b o e => ?_, fun b o e => ?_⟩, os, bare⟩
      · by_cases hb : b ∈ ts
        · obtain ⟨more, hm⟩ := grew b hb
          have e0 := tabs b hb
          rw [e] at e0
          cases e0
          exact .inr (.inl ⟨tabC b hb, rfl, #[], more, rfl, by rw [Array.empty_append]; exact hm⟩)
        · exact .inl (still b o hb e)
      · by_cases hb : b ∈ ts
        · exact let ⟨_, hm⟩ := grew b hb; ⟨_, hm⟩
        · exact ⟨o, still b o hb e⟩
  by_cases hk : K.lookup a = none
  · let H1 : Hp := fun b => if b = a then some (.frz { cls := .type "list", data := .seq vs.toArray } (.lst (ns.map V.int))) else if b ∈ ts then some (.tbl #[]) else none
    have at1 : H1 a = some (.frz { cls := .type "list", data := .seq vs.toArray } (.lst (ns.map V.int))) := if_pos rfl
    have at2 : ∀ b, b ≠ a → b ∈ ts → H1 b = some (.tbl #[]) := fun b hb ht => (if_neg hb).trans (if_pos ht)
    have off : ∀ b, b ≠ a → b ∉ ts → H1 b = none := fun b hb ht => (if_neg hb).trans (if_neg ht)
    have nota : ∀ t ∈ ts, t ≠ a := fun t ht z => notTab (z ▸ ht)
    refine go H1 ⟨fun t ht => at2 t (nota t ht) ht, fun b => ?_⟩ (.inl (.inr ⟨_, at1⟩)) (fun b u z => ?_) (fun b z => ?_) fun _ => hk
    · by_cases hb : b = a
      · subst hb; exact .inr (.inr ⟨_, _, at1⟩)
      · by_cases ht : b ∈ ts
        · exact .inr (.inl ⟨ht, at2 b hb ht⟩)
        · exact .inl (off b hb ht)
    · by_cases hb : b = a
      · subst hb
        rw [at1] at z
        cases z
        exact ⟨obj, by rw [List.length_map]; exact small, vs, _, rel, obj⟩
      · by_cases ht : b ∈ ts
        · rw [at2 b hb ht] at z
          cases z
          exact tabs b ht
        · rw [off b hb ht] at z; cases z
    · by_cases hb : b = a
      · exact .inl hb
      · by_cases ht : b ∈ ts
        · exact .inr ht
        · exact absurd (off b hb ht) z
  · obtain ⟨o, ho⟩ : ∃ o, K.lookup a = some o := by
      cases e : K.lookup a with
      | none => exact absurd e hk
      | some o => exact ⟨o, rfl⟩
    have e := inK a o ho
    rw [obj] at e
    cases e
    let H2 : Hp := fun b => if b ∈ ts then some (.tbl #[]) else none
    have at2 : ∀ b, b ∈ ts → H2 b = some (.tbl #[]) := fun b ht => if_pos ht
    have off : ∀ b, b ∉ ts → H2 b = none := fun b ht => if_neg ht
    refine go H2 ⟨at2, fun b => ?_⟩ (.inr ⟨_, vs.toArray, _, ho, rfl, rfl, rfl, ?_, by simpa using rel⟩) (fun b u z => ?_) (fun b z => ?_) fun z => absurd (off a notTab) z
    · by_cases ht : b ∈ ts
      · exact .inr (.inl ⟨ht, at2 b ht⟩)
      · exact .inl (off b ht)
    · rw [List.size_toArray, len]
      exact small
    · by_cases ht : b ∈ ts
      · rw [at2 b ht] at z
        cases z
        exact tabs b ht
      · rw [off b ht] at z; cases z
    · by_cases ht : b ∈ ts
      · exact .inr ht
      · exact absurd (off b ht) z
/-- a law over facts read off the head, the script's bits told -/
theorem walk_ofG {l : PySem.W.OpenLaw} {n k : Nat} {q : Program} {loose : List Str} {XP : (Str → Option Value) → Heap → Prop} {YP : World → Heap → Prop} {d : DefRec} {x : Str}
    (most : l.most = some n) (hn : n ≤ sizeLine) (nodef : d.params.defaults = []) (rm : Room k callerA) (plain : importsNone q = true)
    (F : ∀ (w : World) (mg : Str → Option Value) (fa : Addr) (h : Heap), YP w h → h.Ns mainGlobals mg → mg d.name = some (.ref fa) →
      ∃ (K : PySem.W.Frag) (ts : List Addr) (fd : FuncData) (sp : Sp), K.In h ∧ (∀ t ∈ ts, h.get? t = some tab0 ∧ K.lookup t = none ∧ isCodeTable h t) ∧ (∀ (s : Shared) (u : Value), BindsTo s fd ⟨[u], []⟩ [(x, u)]) ∧
        (∀ (H : Hp) (a : Addr) (ns : List Int), ns.length ≤ n → (∀ z ∈ ns, Builtin.Int.intBits z ≤ 1048576) → OnlyT ts H → SqL K H a (ns.map V.int) → sp [.ref a] H (fun v _ => v = .bl true) fun _ _ _ => False) ∧
        ∀ bs : Heap, Bs K mg ts bs → FnG l.prog w K mg bs k fa fd [x] sp) :
    PySem.W.WalkO q loose XP YP l.row.toRowW d [] (fun f vs => PySem.call f vs) := by
  refine Att.attach_callB most nodef ?_
  intro w t0 t1 mg mb fa o y1 y2 y3 a vs ns G Y ho hd hcd hmg obj inums len bits noGen
  obtain ⟨K, ts, fd, sp, inK, tb, bind1, prom, hF⟩ := F w mg fa _ Y G.T.g hmg
  exact law_callG inK G.T.g G.T.b G.T.builtins G.T.nolimit (let ⟨mm, z, _⟩ := (G.T.seer plain).mods; ⟨mm, z⟩) noGen (fun t ht => (tb t ht).1) (fun t ht => (tb t ht).2.1) (fun t ht => (tb t ht).2.2) G.T.bmain obj inums (Nat.le_trans len hn) rm hF bind1 (fun H hO hS => prom H a ns len bits hO hS) fun H e s' h => by
    obtain ⟨_, _, _, _, _, _, _, _, _, _, _, _, z⟩ := h
    exact z
end Dm
/-! Dm, part 1: data, what stands for data, the memory of handles, what a mirror is. -/
namespace Dm
open PySem PySem.Spec PyProof.Rows L2
open Evl (Ex)

/-- the object at f is the lambda F whose body is b -/
def LamO (f : Addr) (F : NdefX.NF) (b : PySem.Expr) : HO := .ext fun h => ∃ pm ctv : Value, h.get? f = some (PySem.W.kla_obj "<lambda>" F.qual F.params b F.scope F.cl pm F.c ctv)
/-- the table of the code objects that stand in the code of the global def x -/
def tabA (K : PySem.W.Frag) (x : Str) : Addr := match K.lookup (He.ga K x) with
  | some ⟨_, _, .func fd, _⟩ => (match fd.code with
    | .ref c => (match K.lookup c with
      | some ⟨_, _, .fields vs, _⟩ => (match (vs[11]? : Option Value) with
        | some (.ref P) => P
        | _ => 0)
      | _ => 0)
    | _ => 0)
  | _ => 0
/-- a lambda of the program: what its text says -/
structure LamC where
  qual : Str
  params : Arguments
  body : PySem.Expr
  scope : Scope
  fr : List Str
/-- the program's lambdas, by number; the defs that hold some, each with what they are called -/
class Lams where
  of : Nat → LamC
  tabs : List (Str × Str)
variable [Lams]
def nfOf (i : Nat) (cl : List (Str × Addr)) (c : Addr) : NdefX.NF := ⟨"<lambda>", (Lams.of i).qual, (Lams.of i).params, [], (Lams.of i).scope, cl, c⟩
/-! ### data -/
inductive D where
  | non | bl (b : Bool) | int (i : Int) | str (x : Str) | ty (n : String) | cl (c : Str)
  | tup (ds : List D) | lst (ds : List D) | dct (es : List (D × D)) | obj (c : Str) (fs : List (Str × D)) | exc (c : Str) (fs : List (Str × D))
  deriving Inhabited

/-- what a lambda captured: data, or a handle -/
inductive Cp where
  | d (d : D) | h (k : Nat)
  deriving Inhabited
/-- a slot's value: data, or a handle, or a lambda -/
inductive W where
  | dat (d : D) | hdl (k : Nat) | clo (i : Nat) (cs : List Cp)
  deriving Inhabited
def Cp.w : Cp → W
  | .d x => .dat x
  | .h k => .hdl k
def W.plain : W → Bool
  | .clo _ _ => false
  | _ => true
/-- a mutable object -/
inductive Cell where
  | lst (ds : List D) | dct (es : List (D × D)) | obj (c : Str) (fs : List (Str × D)) | lstH (ws : List W) | dead
  deriving Inhabited
def Cell.isDead : Cell → Bool
  | .dead => true
  | _ => false
abbrev Mem := List Cell
abbrev Slots := List (Option W)

def Cell.d : Cell → Option D
  | .lst ds => some (.lst ds)
  | .dct es => some (.dct es)
  | .obj c fs => some (.obj c fs)
  | .lstH _ => none
  | .dead => none
/-- what is read there -/
def view (m : Mem) : W → Option D
  | .dat d => some d
  | .hdl k => (m[k]?).bind Cell.d
  | .clo _ _ => none

def kD : Key → D
  | .inl i => .int i
  | .inr x => .str x

/-! ### what stands for data, in the frozen heap B -/
section
variable (K : PySem.W.Frag) (B : Hp)
mutual
inductive Rep : V → D → Prop
  | non : Rep .non .non
  | bl (b) : Rep (.bl b) (.bl b)
  | int (i) : Rep (.int i) (.int i)
  | str (x) : Rep (.str x) (.str x)
  | ty (n) : Rep (.ty n) (.ty n)
  | cl (c) : Rep (.ref (He.ga K c)) (.cl c)
  | tup {a vs ds} : SqT K B a vs → Reps vs ds → Rep (.ref a) (.tup ds)
  | lst {a vs ds} : SqL K B a vs → Reps vs ds → Rep (.ref a) (.lst ds)
  | dct {a kvs es} : Rd B a (.dK kvs) → RepK kvs es → Rep (.ref a) (.dct es)
  | dctT {a kvs es} : Rd B a (.dT kvs) → RepT kvs es → Rep (.ref a) (.dct es)
  | obj {c a dx gs fs} : B a = some (.ins (He.ga K c) dx gs) → RepF gs fs → Rep (.ref a) (.obj c fs)
  | exc0 {c a} : B a = some (exo a (He.ga K c) none) → Rep (.ref a) (.exc c [])
  | exc {c a dx gs fs} : B a = some (exo a (He.ga K c) (some dx)) → B dx = some (exd dx gs) → RepF gs fs → Rep (.ref a) (.exc c fs)
inductive Reps : List V → List D → Prop
  | nil : Reps [] []
  | cons {v d vs ds} : Rep v d → Reps vs ds → Reps (v :: vs) (d :: ds)
inductive RepK : List (Key × V) → List (D × D) → Prop
  | nil : RepK [] []
  | cons {k v d r es} : Rep v d → RepK r es → RepK ((k, v) :: r) ((kD k, d) :: es)
inductive RepT : List (List Key × V) → List (D × D) → Prop
  | one {k v d} : Rep v d → RepT [(k, v)] [(.tup (k.map kD), d)]
  | cons {k v d r es} : Rep v d → RepT r es → RepT ((k, v) :: r) ((.tup (k.map kD), d) :: es)
inductive RepF : List (Str × V) → List (Str × D) → Prop
  | nil : RepF [] []
  | cons {x v d r fs} : Rep v d → RepF r fs → RepF ((x, v) :: r) ((x, d) :: fs)
end
end

theorem ex_rd {H H' : Hp} {a : Addr} {u : HO} (e : Ex H H') (h : Rd H a u) : Rd H' a u := Evl.ex_rd e h
section
variable {K : PySem.W.Frag} {B B' : Hp}
mutual
theorem Rep.mono (e : Ex B B') : ∀ {v d}, Rep K B v d → Rep K B' v d
  | _, _, .non => .non
  | _, _, .bl b => .bl b
  | _, _, .int i => .int i
  | _, _, .str x => .str x
  | _, _, .ty n => .ty n
  | _, _, .cl c => .cl c
  | _, _, .tup h r => .tup (Evl.ex_t e h) (Reps.mono e r)
  | _, _, .lst h r => .lst (Evl.ex_l e h) (Reps.mono e r)
  | _, _, .dct h r => .dct (ex_rd e h) (RepK.mono e r)
  | _, _, .dctT h r => .dctT (ex_rd e h) (RepT.mono e r)
  | _, _, .obj h r => .obj (e _ _ h) (RepF.mono e r)
  | _, _, .exc0 h => .exc0 (e _ _ h)
  | _, _, .exc h h2 r => .exc (e _ _ h) (e _ _ h2) (RepF.mono e r)
theorem Reps.mono (e : Ex B B') : ∀ {v d}, Reps K B v d → Reps K B' v d
  | _, _, .nil => .nil
  | _, _, .cons r rs => .cons (Rep.mono e r) (Reps.mono e rs)
theorem RepK.mono (e : Ex B B') : ∀ {v d}, RepK K B v d → RepK K B' v d
  | _, _, .nil => .nil
  | _, _, .cons r rs => .cons (Rep.mono e r) (RepK.mono e rs)
theorem RepT.mono (e : Ex B B') : ∀ {v d}, RepT K B v d → RepT K B' v d
  | _, _, .one r => .one (Rep.mono e r)
  | _, _, .cons r rs => .cons (Rep.mono e r) (RepT.mono e rs)
theorem RepF.mono (e : Ex B B') : ∀ {v d}, RepF K B v d → RepF K B' v d
  | _, _, .nil => .nil
  | _, _, .cons r rs => .cons (Rep.mono e r) (RepF.mono e rs)
end
theorem Reps.length : ∀ {vs ds}, Reps K B vs ds → vs.length = ds.length
  | _, _, .nil => rfl
  | _, _, .cons _ rs => congrArg (· + 1) (Reps.length rs)
theorem Reps.get : ∀ {vs ds} {i : Nat} {d : D}, Reps K B vs ds → ds[i]? = some d → ∃ v, vs[i]? = some v ∧ Rep K B v d
  | _, _, _, _, .nil, e => by simp at e
  | _, _, 0, _, .cons r _, e => by simp at e; subst e; exact ⟨_, rfl, r⟩
  | _, _, i + 1, _, .cons _ rs, e => by
    obtain ⟨v, h1, h2⟩ := Reps.get (i := i) rs (by simpa using e)
    exact ⟨v, by simpa using h1, h2⟩
theorem Reps.getV : ∀ {vs ds} {i : Nat} {v : V}, Reps K B vs ds → vs[i]? = some v → ∃ d, ds[i]? = some d ∧ Rep K B v d
  | _, _, _, _, .nil, e => by simp at e
  | _, _, 0, _, .cons r _, e => by simp at e; subst e; exact ⟨_, rfl, r⟩
  | _, _, i + 1, _, .cons _ rs, e => by
    obtain ⟨v, h1, h2⟩ := Reps.getV (i := i) rs (by simpa using e)
    exact ⟨v, by simpa using h1, h2⟩
theorem Reps.append : ∀ {vs ds us es}, Reps K B vs ds → Reps K B us es → Reps K B (vs ++ us) (ds ++ es)
  | _, _, _, _, .nil, s => s
  | _, _, _, _, .cons r rs, s => .cons r (Reps.append rs s)
theorem Reps.take : ∀ {vs ds} (n : Nat), Reps K B vs ds → Reps K B (vs.take n) (ds.take n)
  | _, _, 0, _ => .nil
  | _, _, _ + 1, .nil => .nil
  | _, _, n + 1, .cons r rs => .cons r (Reps.take n rs)
theorem Reps.drop : ∀ {vs ds} (n : Nat), Reps K B vs ds → Reps K B (vs.drop n) (ds.drop n)
  | _, _, 0, r => r
  | _, _, _ + 1, .nil => .nil
  | _, _, n + 1, .cons _ rs => Reps.drop n rs
theorem Reps.set {v : V} {d : D} (r : Rep K B v d) : ∀ {vs ds} (i : Nat), Reps K B vs ds → Reps K B (vs.set i v) (ds.set i d)
  | _, _, _, .nil => .nil
  | _, _, 0, .cons _ t => .cons r t
  | _, _, i + 1, .cons q t => .cons q (Reps.set r i t)
theorem Reps.reverse : ∀ {vs ds}, Reps K B vs ds → Reps K B vs.reverse ds.reverse
  | _, _, .nil => .nil
  | _, _, .cons r rs => by
    rw [List.reverse_cons, List.reverse_cons]
    exact (Reps.reverse rs).append (.cons r .nil)
end

/-! ### the memory: handle k stands at al k -/
/-- where the handles stand; what stands besides that nobody here touches -/
structure Pl where
  at_ : Nat → Addr
  fr : Hp
instance : CoeFun Pl (fun _ => Nat → Addr) := ⟨Pl.at_⟩
/-- a captured cell, as it stands -/
def cfz (c : Addr) (o : Obj) : HO := .frz o (.ext fun h => h.get? c = some o)
/-- the captured cells hold us -/
structure CloAt (B : Hp) (fr : List Str) (cl : List (Str × Addr)) (us : List V) : Prop where
  len : us.length = fr.length
  all : ∀ y c, cl.lookup y = some c → ∃ o v, B c = some (cfz c o) ∧ o.data = .cell v
  inj : ∀ x y c, cl.lookup x = some c → cl.lookup y = some c → x = y
  has : ∀ (i : Nat) (y : Str), fr[i]? = some y → ∃ c o u v, cl.lookup y = some c ∧ B c = some (cfz c o) ∧ o.data = .cell (some u) ∧ us[i]? = some v ∧ RelV v u
theorem CloAt.mono {B B' : Hp} {fr : List Str} {cl : List (Str × Addr)} {us : List V} (e : Ex B B') (h : CloAt B fr cl us) : CloAt B' fr cl us :=
  ⟨h.len, fun y c q => let ⟨o, v, h1, h2⟩ := h.all y c q; ⟨o, v, e _ _ h1, h2⟩, h.inj, fun i y q => let ⟨c, o, u, v, h1, h2, h3⟩ := h.has i y q; ⟨c, o, u, v, h1, e _ _ h2, h3⟩⟩
/-- a table of code objects -/
def TabW (K : PySem.W.Frag) (B H fr : Hp) (x q : Str) : Prop := ∃ ps : Array Value, H (tabA K x) = some (.tbl ps) ∧ TriplesOk ps.toList ∧ (∀ (pos : Pos) (cv : Value), codeAmong pos ps.toList = some cv → ∃ c, cv = .ref c ∧ B c = some (LamX.CodeO c q)) ∧ B (tabA K x) = none ∧ fr (tabA K x) = none
theorem TabW.mono {K : PySem.W.Frag} {B B' H H' fr fr' : Hp} {x q : Str} (h : TabW K B H fr x q) (e : Ex B B') (hH : ∀ a ps, H a = some (.tbl ps) → B a = none → H' a = some (.tbl ps)) (hB : ∀ a ps, H a = some (.tbl ps) → B a = none → B' a = none) (hf : ∀ a ps, H a = some (.tbl ps) → fr a = none → fr' a = none) : TabW K B' H' fr' x q :=
  let ⟨ps, h1, h2, h3, h4, h5⟩ := h
  ⟨ps, hH _ _ h1 h4, h2, fun pos cv z => let ⟨c, e1, e2⟩ := h3 pos cv z; ⟨c, e1, e _ _ e2⟩, hB _ _ h1 h4, hf _ _ h1 h5⟩
section
variable (K : PySem.W.Frag)
def RepCp (B : Hp) (at_ : Nat → Addr) (n : Nat) : List V → List Cp → Prop
  | [], [] => True
  | v :: vs, .d x :: cs => Rep K B v x ∧ RepCp B at_ n vs cs
  | v :: vs, .h k :: cs => (v = .ref (at_ k) ∧ k < n) ∧ RepCp B at_ n vs cs
  | _, _ => False
def RepW (B : Hp) (al : Pl) (n : Nat) (v : V) : W → Prop
  | .dat d => Rep K B v d
  | .hdl k => v = .ref (al k) ∧ k < n
  | .clo i cs => ∃ f c cl us, v = .ref f ∧ B f = some (LamO f (nfOf i cl c) (Lams.of i).body) ∧ B c = some (LamX.CodeO c (Lams.of i).qual) ∧ CloAt B (Lams.of i).fr cl us ∧ RepCp K B al.at_ n us cs
def RepC (B : Hp) (al : Pl) (k : Nat) (H : Hp) (a : Addr) : Cell → Prop
  | .lst ds => ∃ vs, H a = some (.lst vs) ∧ Reps K B vs ds
  | .dct es => (∃ kvs, H a = some (.dK kvs) ∧ RepK K B kvs es) ∨ ∃ kvs, H a = some (.dT kvs) ∧ RepT K B kvs es
  | .obj c fs => ∃ dx gs, H a = some (.ins (He.ga K c) dx gs) ∧ RepF K B gs fs
  | .lstH ws => ∃ vs, H a = some (.lst vs) ∧ vs.length = ws.length ∧ ∀ (i : Nat) w, ws[i]? = some w → w.plain = true ∧ ∃ v, vs[i]? = some v ∧ RepW K B al k v w
  | .dead => True
/-- no dict that may yet grow -/
def undict : HO → Bool
  | .dK _ => false
  | .dT _ => false
  | _ => true
structure Wd (B : Hp) (al : Pl) (m : Mem) (H : Hp) : Prop where
  ext : Ex B H
  cell : ∀ k c, m[k]? = some c → c.isDead = false → B (al k) = none ∧ RepC K B al k H (al k) c
  inj : ∀ j k c c', m[j]? = some c → m[k]? = some c' → c.isDead = false → c'.isDead = false → al j = al k → j = k
  fx : Ex al.fr H
  fb : ∀ a, al.fr a ≠ none → B a = none
  fc : ∀ k c, m[k]? = some c → c.isDead = false → al.fr (al k) = none
  lk : ∀ a o, B a = some o → undict o = true
  tb : ∀ p ∈ Lams.tabs, TabW K B H al.fr p.1 p.2
def RepS (B : Hp) (al : Pl) (n : Nat) (σ : L2.St) (ρ : Slots) : Prop :=
  σ.length = ρ.length ∧ ∀ (i : Nat) w, ρ[i]? = some (some w) → ∃ v, σ[i]? = some (some v) ∧ RepW K B al n v w
end
/-- the handles below n stand where they stood -/
structure Agr (n : Nat) (al al' : Pl) : Prop where
  at_ : ∀ k, k < n → al' k = al k
  fr : al'.fr = al.fr
theorem Agr.refl {n : Nat} {al : Pl} : Agr n al al := ⟨fun _ _ => rfl, rfl⟩
theorem Agr.trans {n m : Nat} {a b c : Pl} (h : Agr n a b) (g : Agr m b c) (hl : n ≤ m) : Agr n a c := ⟨fun k hk => (g.at_ k (Nat.lt_of_lt_of_le hk hl)).trans (h.at_ k hk), g.fr.trans h.fr⟩
section
variable {K : PySem.W.Frag} {B B' : Hp} {al al' : Pl} {n n' : Nat}
theorem RepCp.mono (e : Ex B B') (g : Agr n al al') (hl : n ≤ n') : ∀ {vs : List V} {cs : List Cp}, RepCp K B al.at_ n vs cs → RepCp K B' al'.at_ n' vs cs
  | [], [], _ => trivial
  | _ :: _, .d _ :: _, h => ⟨Rep.mono e h.1, RepCp.mono e g hl h.2⟩
  | _ :: _, .h k :: _, h => ⟨⟨by rw [g.at_ k h.1.2]; exact h.1.1, Nat.lt_of_lt_of_le h.1.2 hl⟩, RepCp.mono e g hl h.2⟩
  | [], .d _ :: _, h => h.elim
  | [], .h _ :: _, h => h.elim
  | _ :: _, [], h => h.elim
theorem RepW.mono (e : Ex B B') (g : Agr n al al') (hl : n ≤ n') {v : V} {w : W} (h : RepW K B al n v w) : RepW K B' al' n' v w := by
  cases w with
  | dat d => exact Rep.mono e h
  | hdl k => exact ⟨by rw [g.at_ k h.2]; exact h.1, Nat.lt_of_lt_of_le h.2 hl⟩
  | clo i ds =>
    obtain ⟨f, c, cl, us, h1, h2, h3, h4, h5⟩ := h
    exact ⟨f, c, cl, us, h1, e _ _ h2, e _ _ h3, h4.mono e, h5.mono e g hl⟩
theorem RepS.mono (e : Ex B B') (g : Agr n al al') (hl : n ≤ n') {σ : L2.St} {ρ : Slots} (h : RepS K B al n σ ρ) : RepS K B' al' n' σ ρ :=
  ⟨h.1, fun i w hw => let ⟨v, h1, h2⟩ := h.2 i w hw; ⟨v, h1, h2.mono e g hl⟩⟩
theorem RepS.set {σ : L2.St} {ρ : Slots} (h : RepS K B al n σ ρ) {i : Nat} {v : V} {w : W} (r : RepW K B al n v w) : RepS K B al n (σ.set i (some v)) (ρ.set i (some w)) := by
  refine ⟨by rw [List.length_set, List.length_set, h.1], fun j u hu => ?_⟩
  by_cases e : i = j
  · subst e
    by_cases hl : i < ρ.length
    · rw [List.getElem?_set_self hl] at hu
      have : w = u := by simpa using hu
      subst this
      exact ⟨v, by rw [List.getElem?_set_self (by rw [h.1]; exact hl)], r⟩
    · rw [List.getElem?_eq_none (by simpa using hl)] at hu; cases hu
  · rw [List.getElem?_set_ne e] at hu
    obtain ⟨v', h1, h2⟩ := h.2 j u hu
    exact ⟨v', by rw [List.getElem?_set_ne e]; exact h1, h2⟩
theorem RepS.wipe {σ : L2.St} {ρ : Slots} (h : RepS K B al n σ ρ) (i : Nat) (o : Option V) : RepS K B al n (σ.set i o) (ρ.set i none) := by
  refine ⟨by rw [List.length_set, List.length_set, h.1], fun j u hu => ?_⟩
  by_cases e : i = j
  · subst e
    by_cases hl : i < ρ.length
    · rw [List.getElem?_set_self hl] at hu; cases hu
    · rw [List.getElem?_eq_none (by simpa using hl)] at hu; cases hu
  · rw [List.getElem?_set_ne e] at hu
    obtain ⟨v', h1, h2⟩ := h.2 j u hu
    exact ⟨v', by rw [List.getElem?_set_ne e]; exact h1, h2⟩
theorem Wd.take {m : Mem} {H : Hp} (h : Wd K B al m H) (j : Nat) : Wd K B al (m.take j) H := by
  have g : ∀ k c, (m.take j)[k]? = some c → m[k]? = some c := fun k c e => by
    rw [List.getElem?_take] at e
    split at e
    · exact e
    · cases e
  exact ⟨h.ext, fun k c e => h.cell k c (g k c e), fun i k c c' e e' => h.inj i k c c' (g i c e) (g k c' e'), h.fx, h.fb, fun k c e => h.fc k c (g k c e), h.lk, h.tb⟩
end

/-! ### what is seen: the top may be a handle's, what lies within is frozen -/
def Vw (K : PySem.W.Frag) (B H : Hp) (v : V) : D → Prop
  | .lst ds => ∃ a vs, v = .ref a ∧ SqL K H a vs ∧ Reps K B vs ds
  | .tup ds => ∃ a vs, v = .ref a ∧ (SqT K H a vs ∧ SqT K B a vs) ∧ Reps K B vs ds
  | .dct es => ∃ a, v = .ref a ∧ ((∃ kvs, Rd H a (.dK kvs) ∧ RepK K B kvs es) ∨ ∃ kvs, Rd H a (.dT kvs) ∧ RepT K B kvs es)
  | .obj c fs => ∃ a dx gs, v = .ref a ∧ H a = some (.ins (He.ga K c) dx gs) ∧ RepF K B gs fs
  | d => Rep K B v d
section
variable {K : PySem.W.Frag} {B H : Hp} {al : Pl} {m : Mem}
theorem Rep.vw (e : Ex B H) {v : V} {d : D} (h : Rep K B v d) : Vw K B H v d := by
  cases h with
  | non => exact .non
  | bl b => exact .bl b
  | int i => exact .int i
  | str x => exact .str x
  | ty n => exact .ty n
  | cl c => exact .cl c
  | tup q r => exact ⟨_, _, rfl, ⟨Evl.ex_t e q, q⟩, r⟩
  | lst q r => exact ⟨_, _, rfl, Evl.ex_l e q, r⟩
  | dct q r => exact ⟨_, rfl, .inl ⟨_, ex_rd e q, r⟩⟩
  | dctT q r => exact ⟨_, rfl, .inr ⟨_, ex_rd e q, r⟩⟩
  | obj q r => exact ⟨_, _, _, rfl, e _ _ q, r⟩
  | exc0 q => exact .exc0 q
  | exc q q2 r => exact .exc q q2 r
theorem Vw.rep (e : Ex B H) {v : V} {d : D} (h : Vw K B H v d) : Rep K H v d := by
  cases d with
  | lst ds =>
    obtain ⟨a, vs, rfl, q, r⟩ := h
    exact .lst q (r.mono e)
  | tup ds =>
    obtain ⟨a, vs, rfl, q, r⟩ := h
    exact .tup q.1 (r.mono e)
  | dct es =>
    obtain ⟨a, rfl, ⟨kvs, q, r⟩ | ⟨kvs, q, r⟩⟩ := h
    · exact .dct q (r.mono e)
    · exact .dctT q (r.mono e)
  | obj c fs =>
    obtain ⟨a, dx, gs, rfl, q, r⟩ := h
    exact .obj q (r.mono e)
  | _ => exact Rep.mono e h
theorem Wd.view (wd : Wd K B al m H) {n : Nat} {v : V} {w : W} {d : D} (r : RepW K B al n v w) (h : view m w = some d) : Vw K B H v d := by
  cases w with
  | dat d' =>
    cases h
    exact Rep.vw wd.ext r
  | hdl k =>
    obtain ⟨rfl, _⟩ := r
    have h' : (m[k]?).bind Cell.d = some d := h
    cases e : m[k]? with
    | none => rw [e] at h'; cases h'
    | some c =>
      rw [e] at h'
      have h2 : c.d = some d := h'
      cases c with
      | dead => cases h2
      | lst ds =>
        cases h2
        obtain ⟨_, vs, q, rs⟩ := wd.cell k _ e rfl
        exact ⟨_, vs, rfl, .inl (.inl q), rs⟩
      | dct es =>
        cases h2
        obtain ⟨_, ⟨kvs, q, rs⟩ | ⟨kvs, q, rs⟩⟩ := wd.cell k _ e rfl
        · exact ⟨_, rfl, .inl ⟨kvs, .inl q, rs⟩⟩
        · exact ⟨_, rfl, .inr ⟨kvs, .inl q, rs⟩⟩
      | obj c fs =>
        cases h2
        obtain ⟨_, dx, gs, q, rs⟩ := wd.cell k _ e rfl
        exact ⟨_, dx, gs, rfl, q, rs⟩
      | lstH ws => cases h2
  | clo i ds => cases h
end

/-! ### growing: new objects alone -/
structure Gr (B B' H H' : Hp) : Prop where
  b : Ex B B'
  h : Ex H H'
  bh : Ex B' H'
  new : ∀ a, H a ≠ none → B a = none → B' a = none
  lk : ∀ a o, B' a = some o → B a = some o ∨ undict o = true
theorem Gr.refl {B H : Hp} (e : Ex B H) : Gr B B H H := ⟨Ex.refl _, Ex.refl _, e, fun _ _ h => h, fun _ _ h => .inl h⟩
theorem Gr.trans {B B1 B2 H H1 H2 : Hp} (a : Gr B B1 H H1) (b : Gr B1 B2 H1 H2) : Gr B B2 H H2 :=
  ⟨a.b.trans b.b, a.h.trans b.h, b.bh, fun x hx hb => b.new x (by
    cases e : H x with
    | none => exact absurd e hx
    | some o => rw [a.h x o e]; simp) (a.new x hx hb), fun x o hx => (b.lk x o hx).elim (a.lk x o) .inr⟩
theorem Gr.lay {B H : Hp} (e : Ex B H) {p : Addr} {o : HO} (hp : H p = none) (hu : undict o = true := by rfl) : Gr B (upd B p o) H (upd H p o) := by
  have hb : B p = none := by
    cases q : B p with
    | none => rfl
    | some u => rw [e p u q] at hp; cases hp
  refine ⟨Ex.new hb, Ex.new hp, fun a u h => ?_, fun a ha h => ?_, fun a u h => ?_⟩
  · by_cases z : a = p
    · subst z; rw [upd_same] at h ⊢; exact h
    · rw [upd_ne z] at h ⊢; exact e a u h
  · by_cases z : a = p
    · subst z; exact absurd hp ha
    · rw [upd_ne z]; exact h
  · by_cases z : a = p
    · subst z; rw [upd_same] at h; cases h; exact .inr hu
    · rw [upd_ne z] at h; exact .inl h
/-- laid, but not for what is frozen -/
theorem Gr.by {B H : Hp} (e : Ex B H) {p : Addr} {o : HO} (hp : H p = none) : Gr B B H (upd H p o) :=
  ⟨Ex.refl _, Ex.new hp, e.trans (Ex.new hp), fun _ _ h => h, fun _ _ h => .inl h⟩
section
variable {K : PySem.W.Frag} {B B' H H' : Hp} {al : Pl} {m : Mem}
theorem Wd.grow (wd : Wd K B al m H) (g : Gr B B' H H') : Wd K B' al m H' := by
  refine ⟨g.bh, fun k c e hd => ?_, wd.inj, wd.fx.trans g.h, fun a ha => g.new a (fun z => ?_) (wd.fb a ha), wd.fc, fun a o e => (g.lk a o e).elim (wd.lk a o) id, fun p hp => (wd.tb p hp).mono g.b (fun a ps e _ => g.h _ _ e) (fun a ps e hb => g.new a (by rw [e]; simp) hb) fun a ps _ e => e⟩
  rotate_left
  · cases e : al.fr a with
    | none => exact ha e
    | some o => have := wd.fx a o e; rw [z] at this; cases this
  obtain ⟨h1, h2⟩ := wd.cell k c e hd
  cases c with
  | dead => cases hd
  | lst ds =>
    obtain ⟨vs, q, r⟩ := h2
    exact ⟨g.new _ (by rw [q]; simp) h1, vs, g.h _ _ q, r.mono g.b⟩
  | dct es =>
    obtain ⟨kvs, q, r⟩ | ⟨kvs, q, r⟩ := h2
    · exact ⟨g.new _ (by rw [q]; simp) h1, .inl ⟨kvs, g.h _ _ q, r.mono g.b⟩⟩
    · exact ⟨g.new _ (by rw [q]; simp) h1, .inr ⟨kvs, g.h _ _ q, r.mono g.b⟩⟩
  | obj c fs =>
    obtain ⟨dx, gs, q, r⟩ := h2
    exact ⟨g.new _ (by rw [q]; simp) h1, dx, gs, g.h _ _ q, r.mono g.b⟩
  | lstH ws =>
    obtain ⟨vs, q, hl, r⟩ := h2
    exact ⟨g.new _ (by rw [q]; simp) h1, vs, g.h _ _ q, hl, fun i w e => let ⟨r0, v, r1, r2⟩ := r i w e; ⟨r0, v, r1, RepW.mono g.b Agr.refl (Nat.le_refl _) r2⟩⟩
theorem RepC.at_ {k : Nat} {a : Addr} {c : Cell} (e : H' a = H a) (h : RepC K B al k H a c) : RepC K B al k H' a c := by
  cases c with
  | lst ds => obtain ⟨vs, q, r⟩ := h; exact ⟨vs, by rw [e]; exact q, r⟩
  | dct es =>
    rcases h with ⟨kvs, q, r⟩ | ⟨kvs, q, r⟩
    · exact .inl ⟨kvs, by rw [e]; exact q, r⟩
    · exact .inr ⟨kvs, by rw [e]; exact q, r⟩
  | obj c fs => obtain ⟨dx, gs, q, r⟩ := h; exact ⟨dx, gs, by rw [e]; exact q, r⟩
  | lstH ws => obtain ⟨vs, q, r⟩ := h; exact ⟨vs, by rw [e]; exact q, r⟩
  | dead => trivial
theorem RepC.monoB {k : Nat} {a : Addr} {c : Cell} (e : Ex B B') (h : RepC K B al k H a c) : RepC K B' al k H a c := by
  cases c with
  | lst ds => obtain ⟨vs, q, r⟩ := h; exact ⟨vs, q, r.mono e⟩
  | dct es =>
    rcases h with ⟨kvs, q, r⟩ | ⟨kvs, q, r⟩
    · exact .inl ⟨kvs, q, r.mono e⟩
    · exact .inr ⟨kvs, q, r.mono e⟩
  | obj c fs => obtain ⟨dx, gs, q, r⟩ := h; exact ⟨dx, gs, q, r.mono e⟩
  | lstH ws =>
    obtain ⟨vs, q, hl, r⟩ := h
    exact ⟨vs, q, hl, fun i w z => let ⟨r0, v, r1, r2⟩ := r i w z; ⟨r0, v, r1, RepW.mono e Agr.refl (Nat.le_refl _) r2⟩⟩
  | dead => trivial
theorem RepC.agr {k : Nat} {a : Addr} {al al' : Pl} (g : ∀ j, j < k → al' j = al j) {c : Cell} (h : RepC K B al k H a c) : RepC K B al' k H a c := by
  cases c with
  | lstH ws =>
    obtain ⟨vs, q, hl, r⟩ := h
    refine ⟨vs, q, hl, fun i w e => ?_⟩
    obtain ⟨r0, v, r1, r2⟩ := r i w e
    refine ⟨r0, v, r1, ?_⟩
    cases w with
    | dat d => exact r2
    | hdl j => exact ⟨by rw [g j r2.2]; exact r2.1, r2.2⟩
    | clo j ds => cases r0
  | _ => exact h
end
end Dm
/-! Dm, part 2: expressions, tests, arguments. -/
namespace Dm
open PySem PySem.Spec PyProof.Rows L2
open Evl (Ex)
variable [Lams]

inductive Out (α : Type) where
  | ok (a : α) | ex (c : Str) (fs : List (Str × D))
abbrev Run (α : Type) := Option (Out α × Mem)
abbrev EM := Slots → Mem → Run W
abbrev TM := Slots → Mem → Run Bool
abbrev AM := Slots → Mem → Run (List W)
def ret {α : Type} (a : α) (m : Mem) : Run α := some (.ok a, m)
def rd (d : D) (m : Mem) : Run W := some (.ok (.dat d), m)
def bnd {α β : Type} (x : Run α) (k : α → Mem → Run β) : Run β := match x with
  | none => none
  | some (.ok a, m) => k a m
  | some (.ex c fs, m) => some (.ex c fs, m)
@[simp] theorem bnd_ok {α β : Type} (a : α) (m : Mem) (k : α → Mem → Run β) : bnd (some (.ok a, m)) k = k a m := rfl
@[simp] theorem bnd_ret {α β : Type} (a : α) (m : Mem) (k : α → Mem → Run β) : bnd (ret a m) k = k a m := rfl
@[simp] theorem bnd_rd {β : Type} (d : D) (m : Mem) (k : W → Mem → Run β) : bnd (rd d m) k = k (.dat d) m := rfl
@[simp] theorem bnd_none {α β : Type} (k : α → Mem → Run β) : bnd (none : Run α) k = none := rfl
@[simp] theorem bnd_ex {α β : Type} (c : Str) (fs : List (Str × D)) (m : Mem) (k : α → Mem → Run β) : bnd (some (.ex c fs, m)) k = some (.ex c fs, m) := rfl

/-! ### ends -/
def AnsW (K : PySem.W.Frag) (B : Hp) (al : Pl) (n : Nat) (w : W) (m' : Mem) (Q : VK) : Prop :=
  ∀ B' al' v H', Ex B B' → Agr n al al' → Wd K B' al' m' H' → RepW K B' al' m'.length v w → Q v H'
def RepX (K : PySem.W.Frag) (B : Hp) (cls : Value) (oa : Option Addr) (c : Str) (fs : List (Str × D)) : Prop :=
  cls = .ref (He.ga K c) ∧ ((oa = none ∧ fs = []) ∨ ∃ a gs, oa = some a ∧ B a = some (.xd gs) ∧ RepF K B gs fs)
def AnsX (K : PySem.W.Frag) (B : Hp) (al : Pl) (n : Nat) (c : Str) (fs : List (Str × D)) (m' : Mem) (E : XK) : Prop :=
  ∀ B' al' cls oa H', Ex B B' → Agr n al al' → Wd K B' al' m' H' → RepX K B' cls oa c fs → E cls oa H'
/-- where an exception goes -/
def Flies (X : Cx) (B : Hp) (al : Pl) (n : Nat) (σ : L2.St) (c : Str) (fs : List (Str × D)) (m' : Mem) : Prop :=
  ∃ Wx : WX, Takes X Wx ∧ AnsX X.K B al n c fs m' fun cls oa H' => Wx cls oa σ H'
def AnsE (X : Cx) (B : Hp) (al : Pl) (n : Nat) (σ : L2.St) (Q : VK) (m' : Mem) : Out W → Prop
  | .ok w => AnsW X.K B al n w m' Q
  | .ex c fs => Flies X B al n σ c fs m'
def AnsT (X : Cx) (B : Hp) (al : Pl) (n : Nat) (σ : L2.St) (Q : Bool → Hp → Prop) (m' : Mem) : Out Bool → Prop
  | .ok b => ∀ B' al' H', Ex B B' → Agr n al al' → Wd X.K B' al' m' H' → Q b H'
  | .ex c fs => Flies X B al n σ c fs m'
/-- values for slots' values -/
def RepL (K : PySem.W.Frag) (B : Hp) (al : Pl) (n : Nat) : List V → List W → Prop
  | [], [] => True
  | v :: vs, w :: ws => RepW K B al n v w ∧ RepL K B al n vs ws
  | _, _ => False
theorem RepL.mono {K : PySem.W.Frag} {B B' : Hp} {al al' : Pl} {n n' : Nat} (e : Ex B B') (g : Agr n al al') (hl : n ≤ n') : ∀ {vs : List V} {ws : List W}, RepL K B al n vs ws → RepL K B' al' n' vs ws
  | [], [], _ => trivial
  | _ :: _, _ :: _, h => ⟨h.1.mono e g hl, RepL.mono e g hl h.2⟩
  | [], _ :: _, h => h.elim
  | _ :: _, [], h => h.elim
theorem RepL.length {K : PySem.W.Frag} {B : Hp} {al : Pl} {n : Nat} : ∀ {vs : List V} {ws : List W}, RepL K B al n vs ws → vs.length = ws.length
  | [], [], _ => rfl
  | _ :: _, _ :: _, h => congrArg (· + 1) (RepL.length h.2)
  | [], _ :: _, h => h.elim
  | _ :: _, [], h => h.elim
def AnsA (X : Cx) (B : Hp) (al : Pl) (n : Nat) (σ : L2.St) (Q : List V → Hp → Prop) (m' : Mem) : Out (List W) → Prop
  | .ok ws => ∀ B' al' vs H', Ex B B' → Agr n al al' → Wd X.K B' al' m' H' → RepL X.K B' al' m'.length vs ws → Q vs H'
  | .ex c fs => Flies X B al n σ c fs m'
theorem Flies.mono {X : Cx} {B B' : Hp} {al al' : Pl} {n n' : Nat} {σ : L2.St} {c : Str} {fs : List (Str × D)} {m' : Mem} (e : Ex B B') (g : Agr n al al') (hl : n ≤ n') (h : Flies X B al n σ c fs m') : Flies X B' al' n' σ c fs m' :=
  let ⟨Wx, t, a⟩ := h
  ⟨Wx, t, fun B2 al2 cls oa H2 e2 g2 wd r => a B2 al2 cls oa H2 (e.trans e2) (g.trans g2 hl) wd r⟩

/-! ### an expression says what its mirror says -/
def wE (X : Cx) (e : Expr) : TE := fun σ H Q => ∀ (pins : List (Addr × Obj)) (s : Shared), Inv X pins σ H s → wpAny (model X.prog X.w) X.A (eval e X.env) (EP X pins σ Q) X.xe s
theorem pe_w {X : Cx} {e : Expr} : PE X e (wE X e) := ⟨fun pins s σ H Q I h => h pins s I⟩
def wT (X : Cx) (e : Expr) : TT := fun σ H Q => ∀ (pins : List (Addr × Obj)) (s : Shared), Inv X pins σ H s → wpAny (model X.prog X.w) X.A (isTrue e X.env (eval e X.env)) (TP X pins σ Q) X.xe s
theorem pt_w {X : Cx} {e : Expr} : PT X e (wT X e) := ⟨fun pins s σ H Q I h => h pins s I⟩
def wA (X : Cx) (es : List Expr) : TA := fun σ H Q => ∀ (pos : Pos) (pins : List (Addr × Obj)) (s : Shared), Inv X pins σ H s → wpAny (model X.prog X.w) X.A (spliced (backTo pos (starEach es X.env))) (AP X pins σ Q) X.xe s
theorem pa_w {X : Cx} {es : List Expr} : PA X es (wA X es) := ⟨fun pos pins s σ H Q I h => h pos pins s I⟩

structure SE (X : Cx) (e : Expr) (mm : EM) : Prop where
  len : ∀ ρ m o m', mm ρ m = some (o, m') → m.length ≤ m'.length
  run : ∀ ρ m o m', mm ρ m = some (o, m') → ∀ B al σ H Q, Wd X.K B al m H → RepS X.K B al m.length σ ρ → AnsE X B al m.length σ Q m' o → wE X e σ H Q
structure ST (X : Cx) (e : Expr) (mm : TM) : Prop where
  len : ∀ ρ m o m', mm ρ m = some (o, m') → m.length ≤ m'.length
  run : ∀ ρ m o m', mm ρ m = some (o, m') → ∀ B al σ H Q, Wd X.K B al m H → RepS X.K B al m.length σ ρ → AnsT X B al m.length σ Q m' o → wT X e σ H Q
structure SA (X : Cx) (es : List Expr) (mm : AM) : Prop where
  len : ∀ ρ m o m', mm ρ m = some (o, m') → m.length ≤ m'.length
  run : ∀ ρ m o m', mm ρ m = some (o, m') → ∀ B al σ H Q, Wd X.K B al m H → RepS X.K B al m.length σ ρ → AnsA X B al m.length σ Q m' o → wA X es σ H Q
/-- what was flying flies on -/
def Res (X : Cx) (B : Hp) (al : Pl) (n : Nat) (σ : L2.St) {α : Type} (m' : Mem) (o : Out α) : Prop := ∀ c fs, o = .ex c fs → Flies X B al n σ c fs m'
theorem AnsE.res {X : Cx} {B : Hp} {al : Pl} {n : Nat} {σ : L2.St} {Q : VK} {m' : Mem} {o : Out W} (h : AnsE X B al n σ Q m' o) : Res X B al n σ m' o := fun c fs e => by subst e; exact h
theorem AnsT.res {X : Cx} {B : Hp} {al : Pl} {n : Nat} {σ : L2.St} {Q : Bool → Hp → Prop} {m' : Mem} {o : Out Bool} (h : AnsT X B al n σ Q m' o) : Res X B al n σ m' o := fun c fs e => by subst e; exact h
theorem AnsA.res {X : Cx} {B : Hp} {al : Pl} {n : Nat} {σ : L2.St} {Q : List V → Hp → Prop} {m' : Mem} {o : Out (List W)} (h : AnsA X B al n σ Q m' o) : Res X B al n σ m' o := fun c fs e => by subst e; exact h
theorem bnd_cases {α β : Type} {x : Run α} {k : α → Mem → Run β} {o : Out β} {m' : Mem} (h : bnd x k = some (o, m')) : (∃ a m1, x = some (.ok a, m1) ∧ k a m1 = some (o, m')) ∨ ∃ c fs, x = some (.ex c fs, m') ∧ o = .ex c fs := by
  cases x with
  | none => cases h
  | some p =>
    obtain ⟨o1, m1⟩ := p
    cases o1 with
    | ok a => exact .inl ⟨a, m1, rfl, h⟩
    | ex c fs =>
      have e : (some (Out.ex c fs, m1) : Run β) = some (o, m') := h
      cases e
      exact .inr ⟨c, fs, rfl, rfl⟩
section
variable {X : Cx} {B : Hp} {al : Pl} {σ : L2.St} {H : Hp} {ρ : Slots} {m m' : Mem} {β : Type} {o : Out β}
theorem SE.seq {e : Expr} {mm : EM} {k : W → Mem → Run β} {Q' : VK} (h : SE X e mm) (hr : bnd (mm ρ m) k = some (o, m')) (wd : Wd X.K B al m H) (rs : RepS X.K B al m.length σ ρ) (hx : Res X B al m.length σ m' o)
    (hk : ∀ w m1, k w m1 = some (o, m') → m.length ≤ m1.length → AnsW X.K B al m.length w m1 Q') : wE X e σ H Q' := by
  rcases bnd_cases hr with ⟨w, m1, e1, e2⟩ | ⟨c, fs, e1, rfl⟩
  · exact h.run ρ m _ _ e1 B al σ H Q' wd rs (hk w m1 e2 (h.len _ _ _ _ e1))
  · exact h.run ρ m _ _ e1 B al σ H Q' wd rs (hx c fs rfl)
theorem ST.seq {e : Expr} {mm : TM} {k : Bool → Mem → Run β} {Q' : Bool → Hp → Prop} (h : ST X e mm) (hr : bnd (mm ρ m) k = some (o, m')) (wd : Wd X.K B al m H) (rs : RepS X.K B al m.length σ ρ) (hx : Res X B al m.length σ m' o)
    (hk : ∀ b m1, k b m1 = some (o, m') → m.length ≤ m1.length → ∀ B' al' H', Ex B B' → Agr m.length al al' → Wd X.K B' al' m1 H' → Q' b H') : wT X e σ H Q' := by
  rcases bnd_cases hr with ⟨w, m1, e1, e2⟩ | ⟨c, fs, e1, rfl⟩
  · exact h.run ρ m _ _ e1 B al σ H Q' wd rs (hk w m1 e2 (h.len _ _ _ _ e1))
  · exact h.run ρ m _ _ e1 B al σ H Q' wd rs (hx c fs rfl)
theorem SA.seq {es : List Expr} {mm : AM} {k : List W → Mem → Run β} {Q' : List V → Hp → Prop} (h : SA X es mm) (hr : bnd (mm ρ m) k = some (o, m')) (wd : Wd X.K B al m H) (rs : RepS X.K B al m.length σ ρ) (hx : Res X B al m.length σ m' o)
    (hk : ∀ ws m1, k ws m1 = some (o, m') → m.length ≤ m1.length → ∀ B' al' vs H', Ex B B' → Agr m.length al al' → Wd X.K B' al' m1 H' → RepL X.K B' al' m1.length vs ws → Q' vs H') : wA X es σ H Q' := by
  rcases bnd_cases hr with ⟨w, m1, e1, e2⟩ | ⟨c, fs, e1, rfl⟩
  · exact h.run ρ m _ _ e1 B al σ H Q' wd rs (hk w m1 e2 (h.len _ _ _ _ e1))
  · exact h.run ρ m _ _ e1 B al σ H Q' wd rs (hx c fs rfl)
theorem bnd_len {α : Type} {x : Run α} {k : α → Mem → Run β} (h : bnd x k = some (o, m')) (h1 : ∀ o1 m1, x = some (o1, m1) → m.length ≤ m1.length) (h2 : ∀ a m1, k a m1 = some (o, m') → m1.length ≤ m'.length) : m.length ≤ m'.length := by
  rcases bnd_cases h with ⟨w, m1, e1, e2⟩ | ⟨c, fs, e1, rfl⟩
  · exact Nat.le_trans (h1 _ _ e1) (h2 _ _ e2)
  · exact h1 _ _ e1
end
/-- what an expression is wished by is fulfilled more weakly -/
theorem wE.mono {X : Cx} {e : Expr} {σ : L2.St} {H : Hp} {Q Q' : VK} (h : wE X e σ H Q) (hq : ∀ v H', Q v H' → Q' v H') : wE X e σ H Q' := fun pins s I =>
  thn (h pins s I) fun _ _ ⟨v, H', I', r, q⟩ => ⟨v, H', I', r, hq v H' q⟩

/-! ### the plain ones -/
def mC (d : D) : EM := fun _ m => rd d m
def mVar (i : Nat) : EM := fun ρ m => match ρ[i]? with
  | some (some w) => ret w m
  | _ => none
section
variable {X : Cx}
theorem SE.ofC {e : Expr} {v : V} {d : D} (h : PE X e (tC v)) (r : ∀ B, Rep X.K B v d) : SE X e (mC d) := by
  refine ⟨fun ρ m o m' q => ?_, fun ρ m o m' q B al σ H Q wd rs ha pins s I => ?_⟩
  · cases q; exact Nat.le_refl _
  · cases q
    exact h.run pins s σ H Q I (ha B al v H (Ex.refl B) Agr.refl wd (r B))
theorem se_int {i : Int} {j : Nat} {pos : Pos} : SE X (.Constant (.int i) j pos) (mC (.int i)) := .ofC pe_int fun _ => .int i
theorem se_bl {b : Bool} {j : Nat} {pos : Pos} : SE X (.Constant (.bool b) j pos) (mC (.bl b)) := .ofC pe_bl fun _ => .bl b
theorem se_non {j : Nat} {pos : Pos} : SE X (.Constant .none j pos) (mC .non) := .ofC pe_non fun _ => .non
theorem se_str {x : Str} {j : Nat} {pos : Pos} : SE X (.Constant (.str x) j pos) (mC (.str x)) := .ofC pe_str fun _ => .str x
theorem se_var (i : Nat) {x : Str} {pos : Pos} (hN : X.N[i]? = some x) (hv : Vis X.env.scope x) (hd : (x == ("__debug__" : Str)) = false := by decide) (hcd : (x == ("__classdict__" : Str)) = false := by decide) : SE X (.Name x pos) (mVar i) := by
  refine ⟨fun ρ m o m' q => ?_, fun ρ m o m' q B al σ H Q wd rs ha pins s I => ?_⟩
  · unfold mVar at q
    split at q
    · cases q; exact Nat.le_refl _
    · cases q
  · unfold mVar at q
    split at q
    · next w e =>
      cases q
      obtain ⟨v, h1, h2⟩ := rs.2 i w e
      exact (pe_var hN hv hd hcd).run pins s σ H Q I ⟨v, h1, ha B al v H (Ex.refl B) Agr.refl wd h2⟩
    · cases q
end

/-! ### two operands -/
/-- an operation by values is what f says of data -/
def OpS (X : Cx) (r : R2) (f : D → D → Option D) : Prop :=
  ∀ (dx dy d : D), f dx dy = some d → ∀ (B H : Hp) (x y : V), Ex B H → Vw X.K B H x dx → Vw X.K B H y dy → ∀ Q : VK, (∀ B' v H', Gr B B' H H' → Rep X.K B' v d → Q v H') → r x y H Q
def ap2 (f : D → D → Option D) (x y : W) (m : Mem) : Run W := match view m x, view m y with
  | some dx, some dy => (match f dx dy with
    | some d => rd d m
    | none => none)
  | _, _ => none
theorem ap2_eq {f : D → D → Option D} {x y : W} {m : Mem} {o : Out W} {m' : Mem} (h : ap2 f x y m = some (o, m')) : ∃ dx dy d, view m x = some dx ∧ view m y = some dy ∧ f dx dy = some d ∧ o = .ok (.dat d) ∧ m' = m := by
  unfold ap2 at h
  split at h
  · next dx dy h1 h2 =>
    split at h
    · next d h3 =>
      cases h
      exact ⟨dx, dy, d, h1, h2, h3, rfl, rfl⟩
    · cases h
  · cases h
@[simp] theorem ap2_dat {f : D → D → Option D} {dx dy d : D} {m : Mem} (h : f dx dy = some d) : ap2 f (.dat dx) (.dat dy) m = rd d m := by
  show (match f dx dy with
    | some d => rd d m
    | none => none) = _
  rw [h]
def mOp (f : D → D → Option D) (ma mb : EM) : EM := fun ρ m => bnd (ma ρ m) fun x m1 => bnd (mb ρ m1) fun y m2 => ap2 f x y m2
section
variable {X : Cx} {a b : Expr} {ma mb : EM}
theorem op_len {f : D → D → Option D} (ha : SE X a ma) (hb : SE X b mb) : ∀ ρ m o m', mOp f ma mb ρ m = some (o, m') → m.length ≤ m'.length := fun ρ m o m' q =>
  bnd_len q (ha.len ρ m) fun x m1 q1 => bnd_len q1 (hb.len ρ m1) fun y m2 q2 => by
    obtain ⟨_, _, _, _, _, _, _, rfl⟩ := ap2_eq q2
    exact Nat.le_refl _
/-- the reading of two operands and what is done to them -/
theorem op_run {r : R2} {f : D → D → Option D} (hs : OpS X r f) (ha : SE X a ma) (hb : SE X b mb) {ρ : Slots} {m m' : Mem} {o : Out W} (q : mOp f ma mb ρ m = some (o, m')) {B : Hp} {al : Pl} {σ : L2.St} {H : Hp} {Q : VK}
    (wd : Wd X.K B al m H) (rs : RepS X.K B al m.length σ ρ) (h : AnsE X B al m.length σ Q m' o) : tOp r (wE X a) (wE X b) σ H Q := by
  refine ha.seq q wd rs h.res fun x m1 q1 l1 B1 al1 v1 H1 e1 g1 wd1 r1 => ?_
  refine hb.seq q1 wd1 (rs.mono e1 g1 l1) (fun c fs z => (h.res c fs z).mono e1 g1 l1) fun y m2 q2 l2 B2 al2 v2 H2 e2 g2 wd2 r2 => ?_
  obtain ⟨dx, dy, d, hx, hy, hf, rfl, rfl⟩ := ap2_eq q2
  refine hs dx dy d hf B2 H2 v1 v2 wd2.ext (wd2.view (r1.mono e2 g2 l2) hx) (wd2.view r2 hy) Q fun B3 v3 H3 g3 r3 => ?_
  exact h B3 al2 v3 H3 ((e1.trans e2).trans g3.b) (g1.trans g2 l1) (wd2.grow g3) r3
theorem se_op {op : Operator} {r : R2} {f : D → D → Option D} {pos : Pos} (ho : OpR X (binaryOp op) r) (hs : OpS X r f) (ha : SE X a ma) (hb : SE X b mb) : SE X (.BinOp a op b pos) (mOp f ma mb) :=
  ⟨op_len ha hb, fun ρ m o m' q B al σ H Q wd rs h pins s I => (pe_op ho pe_w pe_w).run pins s σ H Q I (op_run hs ha hb q wd rs h)⟩
theorem se_cmp {op : CmpOp} {r : R2} {f : D → D → Option D} {pos : Pos} (ho : OpR X (compareOp op) r) (hs : OpS X r f) (ha : SE X a ma) (hb : SE X b mb) (hm : behindInMarks op b = false) : SE X (.Compare a [op] [b] pos) (mOp f ma mb) :=
  ⟨op_len ha hb, fun ρ m o m' q B al σ H Q wd rs h pins s I => (pe_cmpR ho pe_w pe_w hm).run pins s σ H Q I (op_run hs ha hb q wd rs h)⟩
theorem se_ix {r : R2} {f : D → D → Option D} {pos : Pos} (ho : IxR X r) (hs : OpS X r f) (ha : SE X a ma) (hb : SE X b mb) (hp : PlainIx b) : SE X (.Subscript a b pos) (mOp f ma mb) :=
  ⟨op_len ha hb, fun ρ m o m' q B al σ H Q wd rs h pins s I => (pe_ix ho pe_w pe_w hp).run pins s σ H Q I (op_run hs ha hb q wd rs h)⟩
end
theorem OpS.or {X : Cx} {r r' : R2} {f g : D → D → Option D} (h : OpS X r f) (h' : OpS X r' g) : OpS X (fun x y H Q => r x y H Q ∨ r' x y H Q) (fun x y => match f x y with
    | some d => some d
    | none => g x y) := by
  intro dx dy d hf B H x y e hx hy Q q
  cases h1 : f dx dy with
  | some d' =>
    have hf' : (match f dx dy with
      | some d => some d
      | none => g dx dy) = some d := hf
    rw [h1] at hf'
    cases hf'
    exact .inl (h dx dy d h1 B H x y e hx hy Q q)
  | none =>
    have hf' : (match f dx dy with
      | some d => some d
      | none => g dx dy) = some d := hf
    rw [h1] at hf'
    exact .inr (h' dx dy d hf' B H x y e hx hy Q q)

/-! ### one operand -/
def UnS (X : Cx) (r : V → Hp → VK → Prop) (f : D → Option D) : Prop :=
  ∀ (dx d : D), f dx = some d → ∀ (B H : Hp) (x : V), Ex B H → Vw X.K B H x dx → ∀ Q : VK, (∀ B' v H', Gr B B' H H' → Rep X.K B' v d → Q v H') → r x H Q
def ap1 (f : D → Option D) (x : W) (m : Mem) : Run W := match view m x with
  | some dx => (match f dx with
    | some d => rd d m
    | none => none)
  | none => none
theorem ap1_eq {f : D → Option D} {x : W} {m : Mem} {o : Out W} {m' : Mem} (h : ap1 f x m = some (o, m')) : ∃ dx d, view m x = some dx ∧ f dx = some d ∧ o = .ok (.dat d) ∧ m' = m := by
  unfold ap1 at h
  split at h
  · next dx h1 =>
    split at h
    · next d h3 =>
      cases h
      exact ⟨dx, d, h1, h3, rfl, rfl⟩
    · cases h
  · cases h
def mUn (f : D → Option D) (ma : EM) : EM := fun ρ m => bnd (ma ρ m) fun x m1 => ap1 f x m1
section
variable {X : Cx} {a : Expr} {ma : EM}
theorem un_len {f : D → Option D} (ha : SE X a ma) : ∀ ρ m o m', mUn f ma ρ m = some (o, m') → m.length ≤ m'.length := fun ρ m o m' q =>
  bnd_len q (ha.len ρ m) fun x m1 q1 => by
    obtain ⟨_, _, _, _, _, rfl⟩ := ap1_eq q1
    exact Nat.le_refl _
theorem un_run {r : V → Hp → VK → Prop} {f : D → Option D} (hs : UnS X r f) (ha : SE X a ma) {ρ : Slots} {m m' : Mem} {o : Out W} (q : mUn f ma ρ m = some (o, m')) {B : Hp} {al : Pl} {σ : L2.St} {H : Hp} {Q : VK}
    (wd : Wd X.K B al m H) (rs : RepS X.K B al m.length σ ρ) (h : AnsE X B al m.length σ Q m' o) : tUn r (wE X a) σ H Q := by
  refine ha.seq q wd rs h.res fun x m1 q1 l1 B1 al1 v1 H1 e1 g1 wd1 r1 => ?_
  obtain ⟨dx, d, hx, hf, rfl, rfl⟩ := ap1_eq q1
  refine hs dx d hf B1 H1 v1 wd1.ext (wd1.view r1 hx) Q fun B3 v3 H3 g3 r3 => ?_
  exact h B3 al1 v3 H3 (e1.trans g3.b) g1 (wd1.grow g3) r3
theorem se_un {op : UnaryOp} {r : V → Hp → VK → Prop} {f : D → Option D} {pos : Pos} (ho : UnR X (unaryOp op) r) (hs : UnS X r f) (ha : SE X a ma) : SE X (.UnaryOp op a pos) (mUn f ma) :=
  ⟨un_len ha, fun ρ m o m' q B al σ H Q wd rs h pins s I => (pe_un ho pe_w).run pins s σ H Q I (un_run hs ha q wd rs h)⟩
end

/-! ### tests -/
def dBool : D → Option Bool
  | .bl b => some b
  | _ => none
def wBool (w : W) (m : Mem) : Run Bool := match w with
  | .dat (.bl b) => ret b m
  | _ => none
theorem wBool_eq {w : W} {m : Mem} {o : Out Bool} {m' : Mem} (h : wBool w m = some (o, m')) : ∃ b, w = .dat (.bl b) ∧ o = .ok b ∧ m' = m := by
  unfold wBool at h
  split at h
  · next b => cases h; exact ⟨b, rfl, rfl, rfl⟩
  · cases h
@[simp] theorem wBool_bl {b : Bool} {m : Mem} : wBool (.dat (.bl b)) m = ret b m := rfl
def mTest (ma : EM) : TM := fun ρ m => bnd (ma ρ m) wBool
theorem mTest_len {X : Cx} {a : Expr} {ma : EM} (ha : SE X a ma) : ∀ ρ m o m', mTest ma ρ m = some (o, m') → m.length ≤ m'.length := fun ρ m o m' q =>
  bnd_len q (ha.len ρ m) fun x m1 q1 => by
    obtain ⟨_, _, _, rfl⟩ := wBool_eq q1
    exact Nat.le_refl _
section
variable {X : Cx} {a b c : Expr} {ma mb mc : EM} {ta tb : TM} {pos : Pos}
theorem mTest_run (ha : SE X a ma) {ρ : Slots} {m m' : Mem} {o : Out Bool} (q : mTest ma ρ m = some (o, m')) {B : Hp} {al : Pl} {σ : L2.St} {H : Hp} {Q : Bool → Hp → Prop}
    (wd : Wd X.K B al m H) (rs : RepS X.K B al m.length σ ρ) (h : AnsT X B al m.length σ Q m' o) : tTest (wE X a) σ H Q := by
  refine ha.seq q wd rs h.res fun x m1 q1 l1 B1 al1 v1 H1 e1 g1 wd1 r1 => ?_
  obtain ⟨b, rfl, rfl, rfl⟩ := wBool_eq q1
  cases (r1 : Rep X.K B1 v1 (.bl b))
  exact ⟨b, rfl, h B1 al1 H1 e1 g1 wd1⟩
/-- a comparison as a test -/
theorem st_cmp {op : CmpOp} {r : R2} {f : D → D → Option D} (ho : OpR X (compareOp op) r) (hs : OpS X r f) (ha : SE X a ma) (hb : SE X b mb) (hm : behindInMarks op b = false) : ST X (.Compare a [op] [b] pos) (mTest (mOp f ma mb)) := by
  have he : SE X (.Compare a [op] [b] pos) (mOp f ma mb) := se_cmp ho hs ha hb hm
  refine ⟨mTest_len he, fun ρ m o m' q B al σ H Q wd rs h pins s I => (pt_cmpR ho pe_w pe_w hm).run pins s σ H Q I ?_⟩
  show tTest (tOp r (wE X a) (wE X b)) σ H Q
  rcases bnd_cases q with ⟨w, m1, e1, e2⟩ | ⟨c, fs, e1, rfl⟩
  · obtain ⟨b', rfl, rfl, rfl⟩ := wBool_eq e2
    refine op_run (Q := fun x H' => ∃ k, x = .bl k ∧ Q k H') hs ha hb e1 wd rs fun B1 al1 v1 H1 e g wd1 r1 => ?_
    cases (r1 : Rep X.K B1 v1 (.bl b'))
    exact ⟨b', rfl, h B1 al1 H1 e g wd1⟩
  · exact op_run (Q := fun x H' => ∃ k, x = .bl k ∧ Q k H') hs ha hb e1 wd rs h
/-- an expression that is a bool -/
theorem st_val (ha : SE X a ma) (he : ∀ whole, isTrue a X.env whole = (do let v ← whole; standAt a.pos; holding [v] (truthy v)) := by intro _; rfl) : ST X a (mTest ma) :=
  ⟨mTest_len ha, fun ρ m o m' q B al σ H Q wd rs h pins s I => (pt_val (t := wE X a) pe_w he).run pins s σ H Q I (mTest_run ha q wd rs h)⟩
def mNotT (ta : TM) : TM := fun ρ m => bnd (ta ρ m) fun b m1 => ret (!b) m1
theorem st_not (ha : ST X a ta) : ST X (.UnaryOp .Not a pos) (mNotT ta) := by
  refine ⟨fun ρ m o m' q => bnd_len q (ha.len ρ m) fun x m1 q1 => by cases q1; exact Nat.le_refl _, fun ρ m o m' q B al σ H Q wd rs h pins s I => (pt_not pt_w).run pins s σ H Q I ?_⟩
  refine ha.seq q wd rs h.res fun b m1 q1 l1 B1 al1 H1 e1 g1 wd1 => ?_
  cases q1
  exact h B1 al1 H1 e1 g1 wd1
def mAndT (ta tb : TM) : TM := fun ρ m => bnd (ta ρ m) fun b m1 => match b with
  | true => tb ρ m1
  | false => ret false m1
def mOrT (ta tb : TM) : TM := fun ρ m => bnd (ta ρ m) fun b m1 => match b with
  | true => ret true m1
  | false => tb ρ m1
/-- a test of and, or: whatever the whole is -/
def wW (X : Cx) (e : Expr) : TT := fun σ H Q => ∀ (whole : Sem Value) (pins : List (Addr × Obj)) (s : Shared), Inv X pins σ H s → wpAny (model X.prog X.w) X.A (isTrue e X.env whole) (TP X pins σ Q) X.xe s
theorem pw_w {e : Expr} : PW X e (wW X e) := ⟨fun wh pins s σ H Q I h => h wh pins s I⟩
structure SW (X : Cx) (e : Expr) (mm : TM) : Prop where
  len : ∀ ρ m o m', mm ρ m = some (o, m') → m.length ≤ m'.length
  run : ∀ ρ m o m', mm ρ m = some (o, m') → ∀ B al σ H Q, Wd X.K B al m H → RepS X.K B al m.length σ ρ → AnsT X B al m.length σ Q m' o → wW X e σ H Q
theorem SW.st {e : Expr} {mm : TM} (h : SW X e mm) : ST X e mm := ⟨h.len, fun ρ m o m' q B al σ H Q wd rs ha pins s I => h.run ρ m o m' q B al σ H Q wd rs ha _ pins s I⟩
theorem sw_and1 (ha : ST X a ta) : SW X (.BoolOp .And [a] pos) ta := ⟨ha.len, fun ρ m o m' q B al σ H Q wd rs h wh pins s I => (pw_and1 pt_w).run wh pins s σ H Q I (ha.run ρ m o m' q B al σ H Q wd rs h)⟩
theorem sw_or1 (ha : ST X a ta) : SW X (.BoolOp .Or [a] pos) ta := ⟨ha.len, fun ρ m o m' q B al σ H Q wd rs h wh pins s I => (pw_or1 pt_w).run wh pins s σ H Q I (ha.run ρ m o m' q B al σ H Q wd rs h)⟩
variable {rest : List Expr}
theorem sw_and (ha : ST X a ta) (hb : SW X (.BoolOp .And (b :: rest) pos) tb) : SW X (.BoolOp .And (a :: b :: rest) pos) (mAndT ta tb) := by
  refine ⟨fun ρ m o m' q => bnd_len q (ha.len ρ m) fun x m1 q1 => by
    cases x with
    | true => exact hb.len ρ m1 o m' q1
    | false => cases q1; exact Nat.le_refl _, fun ρ m o m' q B al σ H Q wd rs h wh pins s I => (pw_and pt_w pw_w).run wh pins s σ H Q I ?_⟩
  refine ha.seq q wd rs h.res fun b m1 q1 l1 B1 al1 H1 e1 g1 wd1 => ?_
  cases b with
  | true =>
    rw [if_pos rfl]
    refine hb.run ρ m1 o m' q1 B1 al1 σ H1 Q wd1 (rs.mono e1 g1 l1) ?_
    cases o with
    | ok b => exact fun B2 al2 H2 e2 g2 wd2 => h B2 al2 H2 (e1.trans e2) (g1.trans g2 l1) wd2
    | ex c fs => exact Flies.mono e1 g1 l1 h
  | false =>
    rw [if_neg Bool.false_ne_true]
    cases q1
    exact h B1 al1 H1 e1 g1 wd1
theorem sw_or (ha : ST X a ta) (hb : SW X (.BoolOp .Or (b :: rest) pos) tb) : SW X (.BoolOp .Or (a :: b :: rest) pos) (mOrT ta tb) := by
  refine ⟨fun ρ m o m' q => bnd_len q (ha.len ρ m) fun x m1 q1 => by
    cases x with
    | false => exact hb.len ρ m1 o m' q1
    | true => cases q1; exact Nat.le_refl _, fun ρ m o m' q B al σ H Q wd rs h wh pins s I => (pw_or pt_w pw_w).run wh pins s σ H Q I ?_⟩
  refine ha.seq q wd rs h.res fun b m1 q1 l1 B1 al1 H1 e1 g1 wd1 => ?_
  cases b with
  | false =>
    rw [if_neg Bool.false_ne_true]
    refine hb.run ρ m1 o m' q1 B1 al1 σ H1 Q wd1 (rs.mono e1 g1 l1) ?_
    cases o with
    | ok b => exact fun B2 al2 H2 e2 g2 wd2 => h B2 al2 H2 (e1.trans e2) (g1.trans g2 l1) wd2
    | ex c fs => exact Flies.mono e1 g1 l1 h
  | true =>
    rw [if_pos rfl]
    cases q1
    exact h B1 al1 H1 e1 g1 wd1
theorem AnsE.mono {B B1 : Hp} {al al1 : Pl} {n n1 : Nat} {σ : L2.St} {Q : VK} {m' : Mem} {o : Out W} (e : Ex B B1) (g : Agr n al al1) (l : n ≤ n1) (h : AnsE X B al n σ Q m' o) : AnsE X B1 al1 n1 σ Q m' o := by
  cases o with
  | ok w => exact fun B2 al2 v H2 e2 g2 wd2 r => h B2 al2 v H2 (e.trans e2) (g.trans g2 l) wd2 r
  | ex c fs => exact Flies.mono e g l h
theorem AnsT.mono {B B1 : Hp} {al al1 : Pl} {n n1 : Nat} {σ : L2.St} {Q : Bool → Hp → Prop} {m' : Mem} {o : Out Bool} (e : Ex B B1) (g : Agr n al al1) (l : n ≤ n1) (h : AnsT X B al n σ Q m' o) : AnsT X B1 al1 n1 σ Q m' o := by
  cases o with
  | ok w => exact fun B2 al2 H2 e2 g2 wd2 => h B2 al2 H2 (e.trans e2) (g.trans g2 l) wd2
  | ex c fs => exact Flies.mono e g l h
theorem AnsA.mono {B B1 : Hp} {al al1 : Pl} {n n1 : Nat} {σ : L2.St} {Q : List V → Hp → Prop} {m' : Mem} {o : Out (List W)} (e : Ex B B1) (g : Agr n al al1) (l : n ≤ n1) (h : AnsA X B al n σ Q m' o) : AnsA X B1 al1 n1 σ Q m' o := by
  cases o with
  | ok w => exact fun B2 al2 v H2 e2 g2 wd2 r => h B2 al2 v H2 (e.trans e2) (g.trans g2 l) wd2 r
  | ex c fs => exact Flies.mono e g l h
/-! and, or, not as values: bools -/
def mAnd (ma mb : EM) : EM := fun ρ m => bnd (ma ρ m) fun x m1 => bnd (wBool x m1) fun b m2 => match b with
  | true => mb ρ m2
  | false => rd (.bl false) m2
def mOr (ma mb : EM) : EM := fun ρ m => bnd (ma ρ m) fun x m1 => bnd (wBool x m1) fun b m2 => match b with
  | true => rd (.bl true) m2
  | false => mb ρ m2
theorem se_one {op : BoolOp} (ha : SE X a ma) : SE X (.BoolOp op [a] pos) ma := ⟨ha.len, fun ρ m o m' q B al σ H Q wd rs h pins s I => (pe_one pe_w).run pins s σ H Q I (ha.run ρ m o m' q B al σ H Q wd rs h)⟩
theorem wBool_len {w : W} {m : Mem} : ∀ (o : Out Bool) m', wBool w m = some (o, m') → m.length ≤ m'.length := fun o m' h => by
  obtain ⟨_, _, _, rfl⟩ := wBool_eq h
  exact Nat.le_refl _
theorem se_and (ha : SE X a ma) (hb : SE X (.BoolOp .And (b :: rest) pos) mb) : SE X (.BoolOp .And (a :: b :: rest) pos) (mAnd ma mb) := by
  refine ⟨fun ρ m o m' q => bnd_len q (ha.len ρ m) fun x m1 q1 => bnd_len q1 wBool_len fun b m2 q2 => by
    cases b with
    | true => exact hb.len ρ m2 o m' q2
    | false => cases q2; exact Nat.le_refl _, fun ρ m o m' q B al σ H Q wd rs h pins s I => (pe_and pe_w pe_w).run pins s σ H Q I ?_⟩
  refine ha.seq q wd rs h.res fun x m1 q1 l1 B1 al1 v1 H1 e1 g1 wd1 r1 => ?_
  rcases bnd_cases q1 with ⟨b, m2, e2, q2⟩ | ⟨c, fs, e2, _⟩
  · obtain ⟨b', rfl, e3, rfl⟩ := wBool_eq e2
    cases e3
    cases (r1 : Rep X.K B1 v1 (.bl b))
    refine ⟨b, rfl, ?_⟩
    cases b with
    | true =>
      rw [if_pos rfl]
      exact hb.run ρ _ o m' q2 B1 al1 σ H1 Q wd1 (rs.mono e1 g1 l1) (h.mono e1 g1 l1)
    | false =>
      rw [if_neg Bool.false_ne_true]
      cases q2
      exact h B1 al1 _ H1 e1 g1 wd1 (.bl false)
  · obtain ⟨_, _, e3, _⟩ := wBool_eq e2
    cases e3
theorem se_or (ha : SE X a ma) (hb : SE X (.BoolOp .Or (b :: rest) pos) mb) : SE X (.BoolOp .Or (a :: b :: rest) pos) (mOr ma mb) := by
  refine ⟨fun ρ m o m' q => bnd_len q (ha.len ρ m) fun x m1 q1 => bnd_len q1 wBool_len fun b m2 q2 => by
    cases b with
    | false => exact hb.len ρ m2 o m' q2
    | true => cases q2; exact Nat.le_refl _, fun ρ m o m' q B al σ H Q wd rs h pins s I => (pe_or pe_w pe_w).run pins s σ H Q I ?_⟩
  refine ha.seq q wd rs h.res fun x m1 q1 l1 B1 al1 v1 H1 e1 g1 wd1 r1 => ?_
  rcases bnd_cases q1 with ⟨b, m2, e2, q2⟩ | ⟨c, fs, e2, _⟩
  · obtain ⟨b', rfl, e3, rfl⟩ := wBool_eq e2
    cases e3
    cases (r1 : Rep X.K B1 v1 (.bl b))
    refine ⟨b, rfl, ?_⟩
    cases b with
    | false =>
      rw [if_neg Bool.false_ne_true]
      exact hb.run ρ _ o m' q2 B1 al1 σ H1 Q wd1 (rs.mono e1 g1 l1) (h.mono e1 g1 l1)
    | true =>
      rw [if_pos rfl]
      cases q2
      exact h B1 al1 _ H1 e1 g1 wd1 (.bl true)
  · obtain ⟨_, _, e3, _⟩ := wBool_eq e2
    cases e3
/-- not, as a value of any test's -/
def mNotV (ta : TM) : EM := fun ρ m => bnd (ta ρ m) fun b m1 => rd (.bl (!b)) m1
def fNot : D → Option D
  | .bl b => some (.bl (!b))
  | _ => none
theorem se_not (ha : SE X a ma) : SE X (.UnaryOp .Not a pos) (mUn fNot ma) := by
  refine ⟨un_len ha, fun ρ m o m' q B al σ H Q wd rs h pins s I => (pe_not pe_w).run pins s σ H Q I ?_⟩
  refine un_run (r := fun x H Q => ∃ c, x = .bl c ∧ Q (.bl (!c)) H) (fun dx d hf B H x e hx Q k => ?_) ha q wd rs h
  cases dx with
  | bl b =>
    cases hf
    cases (hx : Rep X.K B x (.bl b))
    exact ⟨b, rfl, k B _ H (Gr.refl e) (.bl _)⟩
  | _ => cases hf
def mIf (tc : TM) (ma mb : EM) : EM := fun ρ m => bnd (tc ρ m) fun b m1 => match b with
  | true => ma ρ m1
  | false => mb ρ m1
theorem se_if {tc : TM} (hc : ST X c tc) (ha : SE X a ma) (hb : SE X b mb) : SE X (.IfExp c a b pos) (mIf tc ma mb) := by
  refine ⟨fun ρ m o m' q => bnd_len q (hc.len ρ m) fun x m1 q1 => by
    cases x with
    | false => exact hb.len ρ m1 o m' q1
    | true => exact ha.len ρ m1 o m' q1, fun ρ m o m' q B al σ H Q wd rs h pins s I => (pe_ifExp pt_w pe_w pe_w).run pins s σ H Q I ?_⟩
  refine hc.seq q wd rs h.res fun b m1 q1 l1 B1 al1 H1 e1 g1 wd1 => ?_
  cases b with
  | true =>
    rw [if_pos rfl]
    exact ha.run ρ m1 o m' q1 B1 al1 σ H1 Q wd1 (rs.mono e1 g1 l1) (h.mono e1 g1 l1)
  | false =>
    rw [if_neg Bool.false_ne_true]
    exact hb.run ρ m1 o m' q1 B1 al1 σ H1 Q wd1 (rs.mono e1 g1 l1) (h.mono e1 g1 l1)
end

/-! ### arguments, displays -/
def mNil : AM := fun _ m => ret [] m
def mCons (ma : EM) (mr : AM) : AM := fun ρ m => bnd (ma ρ m) fun x m1 => bnd (mr ρ m1) fun xs m2 => ret (x :: xs) m2
/-- no star -/
def noStar : Expr → Bool
  | .Starred .. => false
  | _ => true
theorem starEach_cons {e : Expr} {es : List Expr} {env : Env} (h : noStar e = true) : starEach (e :: es) env = (false, eval e env) :: starEach es env := by
  cases e <;> first | rfl | cases h
section
variable {X : Cx} {e : Expr} {es : List Expr} {ma : EM} {mr : AM} {pos : Pos}
theorem sa_nil : SA X [] mNil := ⟨fun ρ m o m' q => by cases q; exact Nat.le_refl _, fun ρ m o m' q B al σ H Q wd rs h pos pins s I => by
  cases q
  exact pa_nil.run pos pins s σ H Q I (h B al [] H (Ex.refl B) Agr.refl wd trivial)⟩
theorem sa_cons (ha : SE X e ma) (hr : SA X es mr) (hs : noStar e = true := by rfl) : SA X (e :: es) (mCons ma mr) := by
  refine ⟨fun ρ m o m' q => bnd_len q (ha.len ρ m) fun x m1 q1 => bnd_len q1 (hr.len ρ m1) fun y m2 q2 => by cases q2; exact Nat.le_refl _, fun ρ m o m' q B al σ H Q wd rs h pos pins s I => (pa_cons pe_w pa_w (starEach_cons hs)).run pos pins s σ H Q I ?_⟩
  refine ha.seq q wd rs h.res fun x m1 q1 l1 B1 al1 v1 H1 e1 g1 wd1 r1 => ?_
  refine hr.seq q1 wd1 (rs.mono e1 g1 l1) (fun c fs z => (h.res c fs z).mono e1 g1 l1) fun y m2 q2 l2 B2 al2 vs2 H2 e2 g2 wd2 r2 => ?_
  cases q2
  exact h B2 al2 (v1 :: vs2) H2 (e1.trans e2) (g1.trans g2 l1) wd2 ⟨r1.mono e2 g2 l2, r2⟩
/-- all of them data -/
def dats : List W → Option (List D)
  | [] => some []
  | .dat d :: r => (dats r).map (d :: ·)
  | .hdl _ :: _ => none
  | .clo _ _ :: _ => none
theorem RepL.dats {K : PySem.W.Frag} {B : Hp} {al : Pl} {n : Nat} : ∀ {vs : List V} {ws : List W} {ds : List D}, RepL K B al n vs ws → dats ws = some ds → Reps K B vs ds
  | [], [], _, _, h => by cases h; exact .nil
  | v :: vs, .dat d :: ws, ds, r, h => by
    have h' : (Dm.dats ws).map (d :: ·) = some ds := h
    cases q : Dm.dats ws with
    | none => rw [q] at h'; cases h'
    | some es =>
      rw [q] at h'
      cases h'
      exact .cons r.1 (RepL.dats r.2 q)
  | _ :: _, .hdl _ :: _, _, _, h => by cases h
  | _ :: _, .clo _ _ :: _, _, _, h => by cases h
  | [], _ :: _, _, r, _ => r.elim
  | _ :: _, [], _, r, _ => r.elim
theorem dats_length : ∀ {ws : List W} {ds : List D}, dats ws = some ds → ds.length = ws.length
  | [], _, h => by cases h; rfl
  | .dat d :: ws, ds, h => by
    have h' : (dats ws).map (d :: ·) = some ds := h
    cases q : dats ws with
    | none => rw [q] at h'; cases h'
    | some es =>
      rw [q] at h'
      cases h'
      exact congrArg (· + 1) (dats_length q)
  | .hdl _ :: _, _, h => by cases h
  | .clo _ _ :: _, _, h => by cases h
/-- a display of so many items -/
def LIM : Nat := 1000000
theorem lim_ok {n : Nat} (h : n ≤ LIM) : n ≤ sizeLine := Nat.le_trans h (by decide)
theorem lim_lt {n : Nat} (h : n < LIM) : n < sizeLine := Nat.lt_of_lt_of_le h (by decide)
def mTup (ma : AM) : EM := fun ρ m => bnd (ma ρ m) fun ws m1 => match dats ws with
  | some ds => if ds.length ≤ LIM then rd (.tup ds) m1 else none
  | none => none
def mLst (ma : AM) : EM := fun ρ m => bnd (ma ρ m) fun ws m1 => match dats ws with
  | some ds => if ds.length ≤ LIM then rd (.lst ds) m1 else none
  | none => none
theorem disp_eq {c : List D → D} {ws : List W} {m1 : Mem} {o : Out W} {m' : Mem} (q : (match dats ws with
  | some ds => if ds.length ≤ LIM then rd (c ds) m1 else none
  | none => none) = some (o, m')) : ∃ ds, dats ws = some ds ∧ ds.length ≤ LIM ∧ o = .ok (.dat (c ds)) ∧ m' = m1 := by
  split at q
  · next ds h =>
    split at q
    · next hl => cases q; exact ⟨ds, h, hl, rfl, rfl⟩
    · cases q
  · cases q
theorem se_tup {k : Nat} (ha : SA X es mr) : SE X (.Tuple es k pos) (mTup mr) := by
  refine ⟨fun ρ m o m' q => bnd_len q (ha.len ρ m) fun x m1 q1 => by
    obtain ⟨_, _, _, _, rfl⟩ := disp_eq q1
    exact Nat.le_refl _, fun ρ m o m' q B al σ H Q wd rs h pins s I => (pe_tup pa_w).run pins s σ H Q I ?_⟩
  refine ha.seq q wd rs h.res fun ws m1 q1 l1 B1 al1 vs1 H1 e1 g1 wd1 r1 => ?_
  obtain ⟨ds, hd, hl, rfl, rfl⟩ := disp_eq q1
  have rr := r1.dats hd
  refine ⟨lim_ok (by rw [rr.length]; exact hl), fun p hp => ?_⟩
  have g := Gr.lay wd1.ext (o := .tup vs1) hp
  exact h _ al1 _ _ (e1.trans g.b) g1 (wd1.grow g) (.tup (.inl (.inl upd_same)) (rr.mono g.b))
theorem se_lst (ha : SA X es mr) : SE X (.List es pos) (mLst mr) := by
  refine ⟨fun ρ m o m' q => bnd_len q (ha.len ρ m) fun x m1 q1 => by
    obtain ⟨_, _, _, _, rfl⟩ := disp_eq q1
    exact Nat.le_refl _, fun ρ m o m' q B al σ H Q wd rs h pins s I => (pe_lst pa_w).run pins s σ H Q I ?_⟩
  refine ha.seq q wd rs h.res fun ws m1 q1 l1 B1 al1 vs1 H1 e1 g1 wd1 r1 => ?_
  obtain ⟨ds, hd, hl, rfl, rfl⟩ := disp_eq q1
  have rr := r1.dats hd
  refine ⟨lim_ok (by rw [rr.length]; exact hl), fun p hp => ?_⟩
  have g := Gr.lay wd1.ext (o := .lst vs1) hp
  exact h _ al1 _ _ (e1.trans g.b) g1 (wd1.grow g) (.lst (.inl (.inl upd_same)) (rr.mono g.b))
/-- a new list, kept as a handle -/
def mLstH (ma : AM) : EM := fun ρ m => bnd (ma ρ m) fun ws m1 => match dats ws with
  | some ds => if ds.length ≤ LIM then ret (.hdl m1.length) (m1 ++ [.lst ds]) else none
  | none => none
end
/-- a new handle: p is free -/
def alx (al : Pl) (n : Nat) (p : Addr) : Pl := ⟨fun k => if k = n then p else al k, al.fr⟩
theorem alx_here {al : Pl} {n : Nat} {p : Addr} : alx al n p n = p := by show (if n = n then p else al n) = p; exact if_pos rfl
theorem alx_old {al : Pl} {n k : Nat} {p : Addr} (h : k < n) : alx al n p k = al k := by show (if k = n then p else al k) = al k; exact if_neg (Nat.ne_of_lt h)
theorem snoc_get {α : Type} {m : List α} {c c' : α} {k : Nat} (e : (m ++ [c])[k]? = some c') : (k < m.length ∧ m[k]? = some c') ∨ (k = m.length ∧ c' = c) := by
  rw [List.getElem?_append] at e
  split at e
  · next h => exact .inl ⟨h, e⟩
  · next h =>
    have hk : k - m.length = 0 := by
      cases q : k - m.length with
      | zero => rfl
      | succ j => rw [q] at e; simp at e
    rw [hk] at e
    have : c = c' := by simpa using e
    exact .inr ⟨by omega, this.symm⟩
theorem Wd.notNew {K : PySem.W.Frag} {B H : Hp} {al : Pl} {m : Mem} (wd : Wd K B al m H) {p : Addr} (hp : H p = none) {k : Nat} {c' : Cell} (e : m[k]? = some c') (hd : c'.isDead = false) : al k ≠ p := fun z => by
  obtain ⟨_, r⟩ := wd.cell k c' e hd
  rw [z] at r
  cases c' with
  | dead => cases hd
  | lst ds => obtain ⟨vs, q, _⟩ := r; rw [hp] at q; cases q
  | dct es => obtain ⟨kvs, q, _⟩ | ⟨kvs, q, _⟩ := r <;> (rw [hp] at q; cases q)
  | obj c fs => obtain ⟨dx, gs, q, _⟩ := r; rw [hp] at q; cases q
  | lstH ws => obtain ⟨vs, q, _⟩ := r; rw [hp] at q; cases q
theorem Wd.notTab {K : PySem.W.Frag} {B H : Hp} {al : Pl} {m : Mem} (wd : Wd K B al m H) {k : Nat} {c : Cell} (e : m[k]? = some c) (hd : c.isDead = false) (ps : Array Value) : H (al k) ≠ some (.tbl ps) := fun z => by
  obtain ⟨_, r⟩ := wd.cell k c e hd
  cases c with
  | dead => cases hd
  | lst ds => obtain ⟨vs, q, _⟩ := r; rw [z] at q; cases q
  | dct es => obtain ⟨kvs, q, _⟩ | ⟨kvs, q, _⟩ := r <;> (rw [z] at q; cases q)
  | obj c fs => obtain ⟨dx, gs, q, _⟩ := r; rw [z] at q; cases q
  | lstH ws => obtain ⟨vs, q, _⟩ := r; rw [z] at q; cases q
theorem Wd.alloc {K : PySem.W.Frag} {B H : Hp} {al : Pl} {m : Mem} (wd : Wd K B al m H) {p : Addr} {o : HO} {c : Cell} (hp : H p = none) (hc : RepC K B (alx al m.length p) m.length (upd H p o) p c) :
    Wd K B (alx al m.length p) (m ++ [c]) (upd H p o) ∧ Agr m.length al (alx al m.length p) := by
  have w2 := wd.grow (Gr.by (o := o) wd.ext hp)
  have hb : B p = none := by
    cases q : B p with
    | none => rfl
    | some u => rw [wd.ext p u q] at hp; cases hp
  have hf : al.fr p = none := by
    cases q : al.fr p with
    | none => rfl
    | some u => rw [wd.fx p u q] at hp; cases hp
  refine ⟨⟨w2.ext, fun k c' e hd => ?_, fun j k c1 c2 e1 e2 hd1 hd2 hjk => ?_, w2.fx, w2.fb, fun k c' e hd => ?_, w2.lk, w2.tb⟩, ⟨fun k hk => alx_old hk, rfl⟩⟩
  rotate_left 2
  · rcases snoc_get e with ⟨hk, e'⟩ | ⟨rfl, rfl⟩
    · rw [alx_old hk]; exact w2.fc k c' e' hd
    · rw [alx_here]; exact hf
  · rcases snoc_get e with ⟨hk, e'⟩ | ⟨rfl, rfl⟩
    · rw [alx_old hk]
      obtain ⟨z1, z2⟩ := w2.cell k c' e' hd
      exact ⟨z1, z2.agr fun j hj => alx_old (Nat.lt_trans hj hk)⟩
    · rw [alx_here]
      exact ⟨hb, hc⟩
  · rcases snoc_get e1 with ⟨hj, e1'⟩ | ⟨rfl, rfl⟩ <;> rcases snoc_get e2 with ⟨hk, e2'⟩ | ⟨rfl, rfl⟩
    · rw [alx_old hj, alx_old hk] at hjk
      exact wd.inj j k c1 c2 e1' e2' hd1 hd2 hjk
    · rw [alx_old hj, alx_here] at hjk
      exact absurd hjk (wd.notNew hp e1' hd1)
    · rw [alx_old hk, alx_here] at hjk
      exact absurd hjk.symm (wd.notNew hp e2' hd2)
    · rfl
theorem se_lstH {X : Cx} {es : List Expr} {mr : AM} {pos : Pos} (ha : SA X es mr) : SE X (.List es pos) (mLstH mr) := by
  have inv : ∀ {ws : List W} {m1 m' : Mem} {o : Out W}, (match dats ws with
    | some ds => if ds.length ≤ LIM then (ret (W.hdl m1.length) (m1 ++ [Cell.lst ds]) : Run W) else none
    | none => none) = some (o, m') → ∃ ds, dats ws = some ds ∧ ds.length ≤ LIM ∧ o = .ok (.hdl m1.length) ∧ m' = m1 ++ [.lst ds] := fun {ws m1 m' o} q => by
    split at q
    · next ds h =>
      split at q
      · next hl => cases q; exact ⟨ds, h, hl, rfl, rfl⟩
      · cases q
    · cases q
  refine ⟨fun ρ m o m' q => bnd_len q (ha.len ρ m) fun x m1 q1 => by
    obtain ⟨_, _, _, _, rfl⟩ := inv q1
    simp, fun ρ m o m' q B al σ H Q wd rs h pins s I => (pe_lst pa_w).run pins s σ H Q I ?_⟩
  refine ha.seq q wd rs h.res fun ws m1 q1 l1 B1 al1 vs1 H1 e1 g1 wd1 r1 => ?_
  obtain ⟨ds, hd, hl, rfl, rfl⟩ := inv q1
  have rr := r1.dats hd
  refine ⟨lim_ok (by rw [rr.length]; exact hl), fun p hp => ?_⟩
  obtain ⟨w2, a2⟩ := wd1.alloc (o := .lst vs1) (c := .lst ds) hp ⟨vs1, upd_same, rr⟩
  exact h B1 _ _ _ e1 (g1.trans a2 l1) w2 ⟨by rw [alx_here], by simp⟩
end Dm
/-! Dm, part 3: calls, statements, defs. -/
namespace Dm
open PySem PySem.Spec PyProof.Rows L2
open Evl (Ex)
variable [Lams]

/-! ### built-in calls on what is seen -/
def views (m : Mem) : List W → Option (List D)
  | [] => some []
  | w :: ws => match view m w, views m ws with
    | some d, some ds => some (d :: ds)
    | _, _ => none
def VwL (K : PySem.W.Frag) (B H : Hp) : List V → List D → Prop
  | [], [] => True
  | v :: vs, d :: ds => Vw K B H v d ∧ VwL K B H vs ds
  | _, _ => False
theorem Wd.views {K : PySem.W.Frag} {B H : Hp} {al : Pl} {m : Mem} {n : Nat} (wd : Wd K B al m H) : ∀ {vs : List V} {ws : List W} {ds : List D}, RepL K B al n vs ws → Dm.views m ws = some ds → VwL K B H vs ds
  | [], [], _, _, h => by cases h; trivial
  | v :: vs, w :: ws, ds, r, h => by
    unfold Dm.views at h
    split at h
    · next d ds' h1 h2 =>
      cases h
      exact ⟨wd.view r.1 h1, Wd.views wd r.2 h2⟩
    · cases h
  | [], _ :: _, _, r, _ => r.elim
  | _ :: _, [], _, r, _ => r.elim
def CaS (X : Cx) (r : List V → Hp → VK → Prop) (f : List D → Option D) : Prop :=
  ∀ (ds : List D) (d : D), f ds = some d → ∀ (B H : Hp) (vs : List V), Ex B H → VwL X.K B H vs ds → ∀ Q : VK, (∀ B' v H', Gr B B' H H' → Rep X.K B' v d → Q v H') → r vs H Q
def apL (f : List D → Option D) (ws : List W) (m : Mem) : Run W := match views m ws with
  | some ds => (match f ds with
    | some d => rd d m
    | none => none)
  | none => none
theorem apL_eq {f : List D → Option D} {ws : List W} {m : Mem} {o : Out W} {m' : Mem} (h : apL f ws m = some (o, m')) : ∃ ds d, views m ws = some ds ∧ f ds = some d ∧ o = .ok (.dat d) ∧ m' = m := by
  unfold apL at h
  split at h
  · next ds h1 =>
    split at h
    · next d h3 =>
      cases h
      exact ⟨ds, d, h1, h3, rfl, rfl⟩
    · cases h
  · cases h
def mCa (f : List D → Option D) (ma : AM) : EM := fun ρ m => bnd (ma ρ m) fun ws m1 => apL f ws m1
theorem star_any {es : List Expr} {env : Env} {pos : Pos} (h : es.all noStar = true) : (backTo pos (starEach es env)).any (·.1) = false := by
  induction es with
  | nil => rfl
  | cons e r ih =>
    have h' : (noStar e && r.all noStar) = true := by simpa using h
    rw [Bool.and_eq_true] at h'
    rw [starEach_cons h'.1]
    show (false || (backTo pos (starEach r env)).any (·.1)) = false
    rw [ih h'.2]
    rfl
section
variable {X : Cx} {e : Expr} {es : List Expr} {ma : AM} {pos : Pos}
theorem ca_len {f : List D → Option D} {es : List Expr} (ha : SA X es ma) : ∀ ρ m o m', mCa f ma ρ m = some (o, m') → m.length ≤ m'.length := fun ρ m o m' q =>
  bnd_len q (ha.len ρ m) fun x m1 q1 => by
    obtain ⟨_, _, _, _, _, rfl⟩ := apL_eq q1
    exact Nat.le_refl _
theorem ca_run {r : List V → Hp → VK → Prop} {f : List D → Option D} {es : List Expr} (hs : CaS X r f) (ha : SA X es ma) {ρ : Slots} {m m' : Mem} {o : Out W} (q : mCa f ma ρ m = some (o, m')) {B : Hp} {al : Pl} {σ : L2.St} {H : Hp} {Q : VK}
    (wd : Wd X.K B al m H) (rs : RepS X.K B al m.length σ ρ) (h : AnsE X B al m.length σ Q m' o) : tCB r (wA X es) σ H Q := by
  refine ha.seq q wd rs h.res fun ws m1 q1 l1 B1 al1 vs1 H1 e1 g1 wd1 r1 => ?_
  obtain ⟨ds, d, hv, hf, rfl, rfl⟩ := apL_eq q1
  refine hs ds d hf B1 H1 vs1 wd1.ext (wd1.views r1 hv) Q fun B3 v3 H3 g3 r3 => ?_
  exact h B3 al1 v3 H3 (e1.trans g3.b) g1 (wd1.grow g3) r3
/-- f(e, ..), f a built-in function -/
theorem se_callB {x : Str} {p : Pos} {id : String} {r : List V → Hp → VK → Prop} {f : List D → Option D} (hc : CallR X (.builtin id) r) (hs : CaS X r f) (hg : Gl X x) (hm : X.mg x = none) (hv : bootBuiltins x = some (.builtin id)) (ha : SA X (e :: es) ma)
    (h0 : noStar e = true := by rfl) (h1 : es.all noStar = true := by rfl) (hn : x ≠ "__name__" := by decide) (hdb : (x == ("__debug__" : Str)) = false := by decide) : SE X (.Call (.Name x p) (e :: es) [] pos) (mCa f ma) :=
  ⟨ca_len ha, fun ρ m o m' q B al σ H Q wd rs h pins s I => (pe_callB hc hg hm hv pa_w hn hdb (starEach_cons h0) (star_any h1)).run pins s σ H Q I (ca_run hs ha q wd rs h)⟩
/-- T(e, ..), T a built-in type -/
theorem se_callTy {x : Str} {p : Pos} {T : String} {r : List V → Hp → VK → Prop} {f : List D → Option D} (hc : CallR X (.type T) r) (hs : CaS X r f) (hg : Gl X x) (hm : X.mg x = none) (hv : bootBuiltins x = some (.type T)) (ha : SA X (e :: es) ma)
    (h0 : noStar e = true := by rfl) (h1 : es.all noStar = true := by rfl) (hn : x ≠ "__name__" := by decide) (hdb : (x == ("__debug__" : Str)) = false := by decide) : SE X (.Call (.Name x p) (e :: es) [] pos) (mCa f ma) :=
  ⟨ca_len ha, fun ρ m o m' q B al σ H Q wd rs h pins s I => (pe_callTy hc hg hm hv pa_w hn hdb (starEach_cons h0) (star_any h1)).run pins s σ H Q I (ca_run hs ha q wd rs h)⟩
end

/-! ### defs -/
abbrev FM := List W → Mem → Run W
def LenF (mf : FM) : Prop := ∀ ws m o m', mf ws m = some (o, m') → m.length ≤ m'.length
/-- the promise: what its mirror says -/
def spM (K : PySem.W.Frag) (n : Nat) (mf : FM) : Sp := fun vs H Q E => vs.length = n ∧ ∃ B al m ws o m', mf ws m = some (o, m') ∧ Wd K B al m H ∧ RepL K B al m.length vs ws ∧
  (match o with
  | .ok w => AnsW K B al m.length w m' Q
  | .ex c fs => AnsX K B al m.length c fs m' E)
/-- what no slot can name is dropped -/
def cut (n : Nat) (x : Run W) : Run W := match x with
  | some (.ok (.dat d), m) => some (.ok (.dat d), m.take n)
  | some (.ok (.hdl k), m) => if k < n then some (.ok (.hdl k), m.take n) else some (.ok (.hdl k), m)
  | some (.ok (.clo _ _), _) => none
  | some (.ex c fs, m) => some (.ex c fs, m.take n)
  | none => none
@[simp] theorem cut_rd {d : D} {m : Mem} {n : Nat} : cut n (rd d m) = rd d (m.take n) := rfl
@[simp] theorem cut_dat {d : D} {m : Mem} {n : Nat} : cut n (some (.ok (.dat d), m)) = rd d (m.take n) := rfl
@[simp] theorem cut_ex {c : Str} {fs : List (Str × D)} {m : Mem} {n : Nat} : cut n (some (.ex c fs, m)) = some (.ex c fs, m.take n) := rfl
@[simp] theorem take_len {m : Mem} : m.take m.length = m := List.take_length
theorem cut_eq {n : Nat} {x : Run W} {o : Out W} {m' : Mem} (h : cut n x = some (o, m')) : ∃ m2, x = some (o, m2) ∧ (m' = m2 ∨ (m' = m2.take n ∧ ∀ k, o = .ok (.hdl k) → k < n)) := by
  unfold cut at h
  split at h
  · cases h; exact ⟨_, rfl, .inr ⟨rfl, fun k e => by cases e⟩⟩
  · split at h
    · next hk => cases h; exact ⟨_, rfl, .inr ⟨rfl, fun k e => by cases e; exact hk⟩⟩
    · cases h; exact ⟨_, rfl, .inl rfl⟩
  · cases h
  · cases h; exact ⟨_, rfl, .inr ⟨rfl, fun k e => by cases e⟩⟩
  · cases h
theorem cut_plain {n : Nat} {x : Run W} {w : W} {m' : Mem} (h : cut n x = some (.ok w, m')) : w.plain = true := by
  cases w with
  | clo i ds =>
    unfold cut at h
    split at h
    · cases h
    · split at h <;> cases h
    · cases h
    · cases h
    · cases h
  | _ => rfl
/-- the arguments in the parameters' order -/
structure Bdg (K : PySem.W.Frag) (fd : FuncData) (ps : List Str) (n : Nat) (ks : List Str) (gW : List W → List W → List W) : Prop where
  ex : ∃ (g : List Value → List Value → List Value) (gV : List V → List V → List V), KBn K fd ps n ks g gV ∧
    (∀ vs zs : List V, vs.length = n → zs.length = ks.length → (gV vs zs).length = ps.length) ∧ ∀ (B : Hp) (al : Pl) (j : Nat) (vs zs : List V) (ws us : List W), vs.length = n → zs.length = ks.length → RepL K B al j vs ws → RepL K B al j zs us → RepL K B al j (gV vs zs) (gW ws us)
def mDef (n nk : Nat) (gW : List W → List W → List W) (mf : FM) (ma mk : AM) : EM := fun ρ m => bnd (ma ρ m) fun ws m1 => bnd (mk ρ m1) fun us m2 => if ws.length = n ∧ us.length = nk then cut m.length (mf (gW ws us) m2) else none
section
variable {X : Cx} {e : Expr} {es : List Expr} {ma mk : AM} {pos p : Pos} {kws : List Keyword} {x : Str}
/-- keywords' values -/
def wK (X : Cx) (kws : List Keyword) : TA := fun σ H Q => ∀ (pos : Pos) (pins : List (Addr × Obj)) (s : Shared), Inv X pins σ H s → wpAny (model X.prog X.w) X.A (evalAll ((backToKw pos (keywordEach kws X.env)).map (·.2))) (AP X pins σ Q) X.xe s
theorem pk_w : PK X kws (wK X kws) := ⟨fun pos pins s σ H Q I h => h pos pins s I⟩
structure SK (X : Cx) (kws : List Keyword) (mm : AM) : Prop where
  len : ∀ ρ m o m', mm ρ m = some (o, m') → m.length ≤ m'.length
  run : ∀ ρ m o m', mm ρ m = some (o, m') → ∀ B al σ H Q, Wd X.K B al m H → RepS X.K B al m.length σ ρ → AnsA X B al m.length σ Q m' o → wK X kws σ H Q
theorem SK.seq {B : Hp} {al : Pl} {σ : L2.St} {H : Hp} {ρ : Slots} {m m' : Mem} {β : Type} {o : Out β} {mm : AM} {k : List W → Mem → Run β} {Q' : List V → Hp → Prop} (h : SK X kws mm) (hr : bnd (mm ρ m) k = some (o, m')) (wd : Wd X.K B al m H) (rs : RepS X.K B al m.length σ ρ) (hx : Res X B al m.length σ m' o)
    (hk : ∀ ws m1, k ws m1 = some (o, m') → m.length ≤ m1.length → ∀ B' al' vs H', Ex B B' → Agr m.length al al' → Wd X.K B' al' m1 H' → RepL X.K B' al' m1.length vs ws → Q' vs H') : wK X kws σ H Q' := by
  rcases bnd_cases hr with ⟨w, m1, e1, e2⟩ | ⟨c, fs, e1, rfl⟩
  · exact h.run ρ m _ _ e1 B al σ H Q' wd rs (hk w m1 e2 (h.len _ _ _ _ e1))
  · exact h.run ρ m _ _ e1 B al σ H Q' wd rs (hx c fs rfl)
theorem sk_nil : SK X [] mNil := ⟨fun ρ m o m' q => by cases q; exact Nat.le_refl _, fun ρ m o m' q B al σ H Q wd rs h pos pins s I => by
  cases q
  exact pk_nil.run pos pins s σ H Q I (h B al [] H (Ex.refl B) Agr.refl wd trivial)⟩
theorem sk_cons {nm : Option Str} {kpos : Pos} {me : EM} {mr : AM} (ha : SE X e me) (hr : SK X kws mr) : SK X (⟨nm, e, kpos⟩ :: kws) (mCons me mr) := by
  refine ⟨fun ρ m o m' q => bnd_len q (ha.len ρ m) fun x m1 q1 => bnd_len q1 (hr.len ρ m1) fun y m2 q2 => by cases q2; exact Nat.le_refl _, fun ρ m o m' q B al σ H Q wd rs h pos pins s I => (pk_cons pe_w pk_w).run pos pins s σ H Q I ?_⟩
  refine ha.seq q wd rs h.res fun x m1 q1 l1 B1 al1 v1 H1 e1 g1 wd1 r1 => ?_
  refine hr.seq q1 wd1 (rs.mono e1 g1 l1) (fun c fs z => (h.res c fs z).mono e1 g1 l1) fun y m2 q2 l2 B2 al2 vs2 H2 e2 g2 wd2 r2 => ?_
  cases q2
  exact h B2 al2 (v1 :: vs2) H2 (e1.trans e2) (g1.trans g2 l1) wd2 ⟨r1.mono e2 g2 l2, r2⟩
theorem def_len {n nk : Nat} {gW : List W → List W → List W} {mf : FM} (L : LenF mf) (ha : ∀ ρ m o m', ma ρ m = some (o, m') → m.length ≤ m'.length) (hk : ∀ ρ m o m', mk ρ m = some (o, m') → m.length ≤ m'.length) :
    ∀ ρ m o m', mDef n nk gW mf ma mk ρ m = some (o, m') → m.length ≤ m'.length := fun ρ m o m' q => by
  rcases bnd_cases q with ⟨ws, m1, e1, q1⟩ | ⟨c, fs, e1, rfl⟩
  · rcases bnd_cases q1 with ⟨us, m2, e2, q2⟩ | ⟨c, fs, e2, rfl⟩
    · split at q2
      · obtain ⟨m3, e3, h3⟩ := cut_eq q2
        have l1 := ha _ _ _ _ e1
        have l2 := hk _ _ _ _ e2
        have l3 := L _ _ _ _ e3
        rcases h3 with rfl | ⟨rfl, _⟩
        · omega
        · rw [List.length_take]; omega
      · cases q2
    · exact Nat.le_trans (ha _ _ _ _ e1) (hk _ _ _ _ e2)
  · exact ha _ _ _ _ e1
/-- the callee runs; what it lets out flies on -/
theorem run_mf {k n : Nat} {f : Addr} {fd : FuncData} {ps ks : List Str} {mf : FM} {g : List Value → List Value → List Value} {gV : List V → List V → List V} {pins : List (Addr × Obj)} {σ : L2.St} {H : Hp} {s : Shared} {Q : VK} {us ws : List Value} {vs zs : List V} {E : XK}
    {sp : Sp} (F : FnG X.prog X.w X.K X.mg X.base k f fd ps sp) (hr : Room k X.A) (hG : X.A.guards = some []) (hb : KBn X.K fd ps n ks g gV) (I : Inv X pins σ H s) (r : Vals vs us) (rz : Vals zs ws) (l1 : vs.length = n) (l2 : zs.length = ks.length) (h : sp (gV vs zs) H Q E)
    (hx : ∀ u s', L2.CX X.prog X.w X.stack H s E u s' → X.xe u s') : wpAny (model X.prog X.w) X.A (call (.ref f) us (ks.zip ws)) (EP X pins σ Q) X.xe s := by
  have rr := hb.rel r rz
  have bt := hb.to s us ws I.kIn (r.length.symm.trans l1) (rz.length.symm.trans l2)
  have run := F.run X.A X.stack s H ⟨us, ks.zip ws⟩ (g us ws) (gV vs zs) Q E hG hr I.env0 bt rr h
  refine wpAny_call (codeAny_mono run fun res s' done => ?_)
  match res, done with
  | .error u, done => exact hx u s' done
  | .ok (.ret u), done => exact I.after done
  | .ok .next, done => exact done.elim
  | .ok .brk, done => exact done.elim
  | .ok .cont, done => exact done.elim
/-- from the arguments' values to the end of the call -/
theorem call_run {k n : Nat} {f : Addr} {fd : FuncData} {ps ks : List Str} {mf : FM} {gW : List W → List W → List W} (F : FnG X.prog X.w X.K X.mg X.base k f fd ps (spM X.K ps.length mf)) (hr : Room k X.A) (hG : X.A.guards = some []) (hb : Bdg X.K fd ps n ks gW)
    {B B2 : Hp} {al al2 : Pl} {m m2 m' : Mem} {σ : L2.St} {H2 : Hp} {Q : VK} {o : Out W} (h : AnsE X B al m.length σ Q m' o) (l : m.length ≤ m2.length) (e2 : Ex B B2) (g2 : Agr m.length al al2) (wd2 : Wd X.K B2 al2 m2 H2) {vs zs : List V} {ws us : List W}
    (r1 : RepL X.K B2 al2 m2.length vs ws) (r2 : RepL X.K B2 al2 m2.length zs us) (hl1 : ws.length = n) (hl2 : us.length = ks.length) (q : cut m.length (mf (gW ws us) m2) = some (o, m')) (L : LenF mf)
    {pins : List (Addr × Obj)} {s : Shared} (I : Inv X pins σ H2 s) {uv kv : List Value} (rv : Vals vs uv) (rk : Vals zs kv) : wpAny (model X.prog X.w) X.A (call (.ref f) uv (ks.zip kv)) (EP X pins σ Q) X.xe s := by
  obtain ⟨g, gV, hbn, hvl, hrel⟩ := hb.ex
  obtain ⟨m3, e3, hm⟩ := cut_eq q
  have lv : vs.length = n := r1.length.trans hl1
  have lz : zs.length = ks.length := r2.length.trans hl2
  have l3 := L _ _ _ _ e3
  have hlen : (gV vs zs).length = ps.length := hvl vs zs lv lz
  cases o with
  | ok w =>
    refine run_mf (E := E0) (mf := mf) F hr hG hbn I rv rk lv lz ⟨hlen, B2, al2, m2, gW ws us, _, m3, e3, wd2, hrel B2 al2 m2.length vs zs ws us lv lz r1 r2, fun B3 al3 v3 H3 e4 g4 wd4 r4 => ?_⟩ fun u s' hq => ?_
    · rcases hm with rfl | ⟨rfl, hw⟩
      · exact h B3 al3 v3 H3 (e2.trans e4) (g2.trans g4 l) wd4 r4
      · refine h B3 al3 v3 H3 (e2.trans e4) (g2.trans g4 l) (wd4.take _) ?_
        cases w with
        | dat d => exact r4
        | hdl k => exact ⟨r4.1, by rw [List.length_take]; have := hw k rfl; omega⟩
        | clo i ds => cases cut_plain q
    · exact (passL pins σ H2 s u s' I hq)
  | ex c fs =>
    obtain ⟨Wx, tk, ha⟩ := h
    refine run_mf (E := fun cls oa H' => Wx cls oa σ H') (mf := mf) F hr hG hbn I rv rk lv lz ⟨hlen, B2, al2, m2, gW ws us, _, m3, e3, wd2, hrel B2 al2 m2.length vs zs ws us lv lz r1 r2, fun B3 al3 cls oa H3 e4 g4 wd4 r4 => ?_⟩ fun u s' hq => ?_
    · rcases hm with rfl | ⟨rfl, hw⟩
      · exact ha B3 al3 cls oa H3 (e2.trans e4) (g2.trans g4 l) wd4 r4
      · exact ha B3 al3 cls oa H3 (e2.trans e4) (g2.trans g4 l) (wd4.take _) r4
    · exact tk u s' (XE.of_call I (fun cls oa H' z => z) hq)
end
end Dm

namespace Dm
open PySem PySem.Spec PyProof.Rows L2
open Evl (Ex)
variable [Lams]
theorem kw_names {env : Env} {pos : Pos} : ∀ (kws : List Keyword), (backToKw pos (keywordEach kws env)).map (·.1) = kws.map (·.arg)
  | [] => rfl
  | ⟨_, _, _⟩ :: r => congrArg (_ :: ·) (kw_names (env := env) (pos := pos) r)
theorem kw_all {env : Env} {pos : Pos} {kws : List Keyword} (h : (kws.map (·.arg)).all (·.isSome) = true) : (backToKw pos (keywordEach kws env)).all (·.1.isSome) = true := by
  rw [← kw_names (env := env) (pos := pos), List.all_map] at h
  exact h
theorem kw_any {env : Env} {pos : Pos} {kws : List Keyword} (h : (kws.map (·.arg)).all (·.isSome) = true) : (backToKw pos (keywordEach kws env)).any (·.1.isNone) = false := by
  have h2 := kw_all (env := env) (pos := pos) h
  rw [List.any_eq_false]
  intro p hp q
  have := List.all_eq_true.mp h2 p hp
  cases e : p.1 with
  | none => rw [e] at this; cases this
  | some z => rw [e] at q; cases q
theorem kw_ks {env : Env} {pos : Pos} {kws : List Keyword} {ks : List Str} (h : (kws.map (·.arg)).filterMap id = ks) : (backToKw pos (keywordEach kws env)).filterMap (·.1) = ks := by
  rw [← kw_names (env := env) (pos := pos), List.filterMap_map] at h
  exact h
section
variable {X : Cx} {e : Expr} {es : List Expr} {ma mk : AM} {pos p : Pos} {kws : List Keyword} {x : Str} {k n : Nat} {f : Addr} {fd : FuncData} {ps ks : List Str} {mf : FM} {gW : List W → List W → List W}
/-- f(e, ..) -/
theorem se_call (F : FnG X.prog X.w X.K X.mg X.base k f fd ps (spM X.K ps.length mf)) (L : LenF mf) (hr : Room k X.A) (hG : X.A.guards = some []) (hb : Bdg X.K fd ps n [] gW) (hg : Gl X x) (hm : X.mg x = some (.ref f)) (hk : PySem.W.keepIn X.K (.ref f) = true)
    (ha : SA X (e :: es) ma) (h0 : noStar e = true := by rfl) (h1 : es.all noStar = true := by rfl) (hdb : (x == ("__debug__" : Str)) = false := by decide) : SE X (.Call (.Name x p) (e :: es) [] pos) (mDef n 0 gW mf ma mNil) := by
  refine ⟨def_len L ha.len (sk_nil (X := X)).len, fun ρ m o m' q B al σ H Q wd rs h pins s I => ?_⟩
  refine wpAny_Call_Name_kw (ld_glob I hg hm ?_ hdb)
  refine PySem.W.callWith_K (h₀ := X.base) I.ok.mod.kin hk (thn (ha.seq (Q' := fun vs H1 => ∀ pins s1 us, Inv X pins σ H1 s1 → Vals vs us → wpAny (model X.prog X.w) X.A (call (.ref f) us) (EP X pins σ Q) X.xe s1) q wd rs h.res (fun ws m1 q1 l1 B1 al1 vs1 H1 e1 g1 wd1 r1 pins s1 us I1 ru => ?_) pos pins s I)
    fun us s1 ⟨vs, H1, I1, r, q⟩ => ⟨I1.kIn, q pins s1 us I1 r⟩) (starEach_cons h0) (star_any h1)
  have q2 : (if ws.length = n ∧ ([] : List W).length = 0 then cut m.length (mf (gW ws []) m1) else none) = some (o, m') := q1
  split at q2
  · next hl => exact call_run (kv := []) (zs := []) (us := []) F hr hG hb h l1 e1 g1 wd1 r1 trivial hl.1 rfl q2 L I1 ru .nil
  · cases q2
/-- f() -/
theorem se_call0 (F : FnG X.prog X.w X.K X.mg X.base k f fd ps (spM X.K ps.length mf)) (L : LenF mf) (hr : Room k X.A) (hG : X.A.guards = some []) (hb : Bdg X.K fd ps 0 [] gW) (hg : Gl X x) (hm : X.mg x = some (.ref f)) (hk : PySem.W.keepIn X.K (.ref f) = true)
    (hdb : (x == ("__debug__" : Str)) = false := by decide) : SE X (.Call (.Name x p) [] [] pos) (mDef 0 0 gW mf mNil mNil) := by
  refine ⟨def_len L (sa_nil (X := X)).len (sk_nil (X := X)).len, fun ρ m o m' q B al σ H Q wd rs h pins s I => ?_⟩
  refine wpAny_Call_Name_kw (ld_glob I hg hm ?_ hdb)
  refine PySem.W.callWith_K0 I.kIn hk ?_
  have q2 : cut m.length (mf (gW [] []) m) = some (o, m') := q
  exact call_run (uv := []) (vs := []) (ws := []) (kv := []) (zs := []) (us := []) F hr hG hb h (Nat.le_refl _) (Ex.refl B) Agr.refl wd trivial trivial rfl rfl q2 L I .nil .nil
/-- f(e, .., k = v, ..) -/
theorem se_callK (F : FnG X.prog X.w X.K X.mg X.base k f fd ps (spM X.K ps.length mf)) (L : LenF mf) (hr : Room k X.A) (hG : X.A.guards = some []) (hb : Bdg X.K fd ps n ks gW) (hg : Gl X x) (hm : X.mg x = some (.ref f)) (hk : PySem.W.keepIn X.K (.ref f) = true)
    (ha : SA X (e :: es) ma) (hw : SK X kws mk) (hall : (kws.map (·.arg)).all (·.isSome) = true := by rfl) (hks : (kws.map (·.arg)).filterMap id = ks := by rfl) (h0 : noStar e = true := by rfl) (h1 : es.all noStar = true := by rfl) (hdb : (x == ("__debug__" : Str)) = false := by decide) :
    SE X (.Call (.Name x p) (e :: es) kws pos) (mDef n ks.length gW mf ma mk) := by
  refine ⟨def_len L ha.len hw.len, fun ρ m o m' q B al σ H Q wd rs h pins s I => ?_⟩
  refine wpAny_Call_Name_kw (ld_glob I hg hm ?_ hdb)
  refine PySem.W.callWith_KW (h₀ := X.base) I.ok.mod.kin hk (kw_all hall) (thn (ha.seq (Q' := fun vs H1 => ∀ pins s1 us, Inv X pins σ H1 s1 → Vals vs us → wpAny (model X.prog X.w) X.A (evalAll ((backToKw pos (keywordEach kws X.env)).map (·.2))) (fun ws2 s2 => X.K.In s2.heap ∧ wpAny (model X.prog X.w) X.A (call (.ref f) us (ks.zip ws2)) (EP X pins σ Q) X.xe s2) X.xe s1)
      q wd rs h.res (fun ws m1 q1 l1 B1 al1 vs1 H1 e1 g1 wd1 r1 pins s1 us I1 ru => ?_) pos pins s I)
    fun us s1 ⟨vs, H1, I1, r, q⟩ => by rw [kw_ks hks]; exact q pins s1 us I1 r) (by rw [star_any (es := e :: es) (by rw [List.all_cons, h0, h1]; rfl), kw_any hall]; rfl) (starEach_cons h0)
  refine thn (hw.seq (Q' := fun zs H2 => ∀ pins s2 ks2, Inv X pins σ H2 s2 → Vals zs ks2 → Vals vs1 us → wpAny (model X.prog X.w) X.A (call (.ref f) us (ks.zip ks2)) (EP X pins σ Q) X.xe s2) q1 wd1 (rs.mono e1 g1 l1) (fun c fs z => (h.res c fs z).mono e1 g1 l1) (fun us2 m2 q2 l2 B2 al2 vs2 H2 e2 g2 wd2 r2 pins s2 ks2 I2 rk ru2 => ?_) pos pins s1 I1)
    fun ks2 s2 ⟨zs, H2, I2, rk, q⟩ => ⟨I2.kIn, q pins s2 ks2 I2 rk ru⟩
  split at q2
  · next hl => exact call_run F hr hG hb h (Nat.le_trans l1 l2) (e1.trans e2) (g1.trans g2 l1) wd2 (r1.mono e2 g2 l2) r2 hl.1 hl.2 q2 L I2 ru2 rk
  · cases q2
/-- f(k = v, ..) -/
theorem se_callK0 (F : FnG X.prog X.w X.K X.mg X.base k f fd ps (spM X.K ps.length mf)) (L : LenF mf) (hr : Room k X.A) (hG : X.A.guards = some []) (hb : Bdg X.K fd ps 0 ks gW) (hg : Gl X x) (hm : X.mg x = some (.ref f)) (hk : PySem.W.keepIn X.K (.ref f) = true)
    (hw : SK X kws mk) (hall : (kws.map (·.arg)).all (·.isSome) = true := by rfl) (hks : (kws.map (·.arg)).filterMap id = ks := by rfl) (hdb : (x == ("__debug__" : Str)) = false := by decide) :
    SE X (.Call (.Name x p) [] kws pos) (mDef 0 ks.length gW mf mNil mk) := by
  refine ⟨def_len L (sa_nil (X := X)).len hw.len, fun ρ m o m' q B al σ H Q wd rs h pins s I => ?_⟩
  refine wpAny_Call_Name_kw (ld_glob I hg hm ?_ hdb)
  have q' : bnd (mk ρ m) (fun us m2 => if ([] : List W).length = 0 ∧ us.length = ks.length then cut m.length (mf (gW [] us) m2) else none) = some (o, m') := q
  refine PySem.W.callWith_KW0 (h₀ := X.base) I.ok.mod.kin hk (kw_all hall) ?_ (by show (false || _) = false; rw [kw_any hall]; rfl)
  rw [kw_ks hks]
  refine thn (hw.seq (Q' := fun zs H2 => ∀ pins s2 ks2, Inv X pins σ H2 s2 → Vals zs ks2 → wpAny (model X.prog X.w) X.A (call (.ref f) [] (ks.zip ks2)) (EP X pins σ Q) X.xe s2) q' wd rs h.res (fun us2 m2 q2 l2 B2 al2 vs2 H2 e2 g2 wd2 r2 pins s2 ks2 I2 rk => ?_) pos pins s I)
    fun ks2 s2 ⟨zs, H2, I2, rk, q⟩ => ⟨I2.kIn, q pins s2 ks2 I2 rk⟩
  split at q2
  · next hl => exact call_run (uv := []) (vs := []) (ws := []) F hr hG hb h l2 e2 g2 wd2 trivial r2 rfl hl.2 q2 L I2 .nil rk
  · cases q2
end

end Dm
/-! Dm, part 4: statements, defs. -/
namespace Dm
open PySem PySem.Spec PyProof.Rows L2
open Evl (Ex)
variable [Lams]

/-! ### statements -/
inductive Fl where
  | nx (ρ : Slots) | rt (w : W) | bk (ρ : Slots) | ct (ρ : Slots) | ex (c : Str) (fs : List (Str × D)) (ρ : Slots)
abbrev SR := Option (Fl × Mem)
abbrev SM := Slots → Mem → SR
def SFlies (X : Cx) (B : Hp) (al : Pl) (n : Nat) (c : Str) (fs : List (Str × D)) (ρ : Slots) (m' : Mem) : Prop :=
  ∃ Wx : WX, Takes X Wx ∧ ∀ B' al' σ' cls oa H', Ex B B' → Agr n al al' → Wd X.K B' al' m' H' → RepS X.K B' al' m'.length σ' ρ → RepX X.K B' cls oa c fs → Wx cls oa σ' H'
def AnsN (K : PySem.W.Frag) (B : Hp) (al : Pl) (n : Nat) (ρ : Slots) (m' : Mem) (N : L2.St → Hp → Prop) : Prop :=
  ∀ B' al' σ' H', Ex B B' → Agr n al al' → Wd K B' al' m' H' → RepS K B' al' m'.length σ' ρ → N σ' H'
def AnsF (X : Cx) (B : Hp) (al : Pl) (n : Nat) (D : Ends) (m' : Mem) : Fl → Prop
  | .nx ρ => AnsN X.K B al n ρ m' D.nx
  | .bk ρ => AnsN X.K B al n ρ m' D.bk
  | .ct ρ => AnsN X.K B al n ρ m' D.ct
  | .rt w => AnsW X.K B al n w m' D.rt
  | .ex c fs ρ => SFlies X B al n c fs ρ m'
theorem AnsN.mono {K : PySem.W.Frag} {B B1 : Hp} {al al1 : Pl} {n n1 : Nat} {ρ : Slots} {m' : Mem} {N : L2.St → Hp → Prop} (e : Ex B B1) (g : Agr n al al1) (l : n ≤ n1) (h : AnsN K B al n ρ m' N) : AnsN K B1 al1 n1 ρ m' N :=
  fun B2 al2 σ2 H2 e2 g2 wd rs => h B2 al2 σ2 H2 (e.trans e2) (g.trans g2 l) wd rs
theorem SFlies.mono {X : Cx} {B B1 : Hp} {al al1 : Pl} {n n1 : Nat} {c : Str} {fs : List (Str × D)} {ρ : Slots} {m' : Mem} (e : Ex B B1) (g : Agr n al al1) (l : n ≤ n1) (h : SFlies X B al n c fs ρ m') : SFlies X B1 al1 n1 c fs ρ m' :=
  let ⟨Wx, t, a⟩ := h
  ⟨Wx, t, fun B2 al2 σ2 cls oa H2 e2 g2 wd rs r => a B2 al2 σ2 cls oa H2 (e.trans e2) (g.trans g2 l) wd rs r⟩
theorem AnsF.mono {X : Cx} {B B1 : Hp} {al al1 : Pl} {n n1 : Nat} {D : Ends} {m' : Mem} {f : Fl} (e : Ex B B1) (g : Agr n al al1) (l : n ≤ n1) (h : AnsF X B al n D m' f) : AnsF X B1 al1 n1 D m' f := by
  cases f with
  | nx ρ => exact AnsN.mono e g l h
  | bk ρ => exact AnsN.mono e g l h
  | ct ρ => exact AnsN.mono e g l h
  | rt w => exact fun B2 al2 v H2 e2 g2 wd2 r => h B2 al2 v H2 (e.trans e2) (g.trans g2 l) wd2 r
  | ex c fs ρ => exact SFlies.mono e g l h
theorem SFlies.at {X : Cx} {B : Hp} {al : Pl} {n : Nat} {c : Str} {fs : List (Str × D)} {ρ : Slots} {m' : Mem} {σ : L2.St} (h : SFlies X B al n c fs ρ m') (rs : RepS X.K B al n σ ρ) (l : n ≤ m'.length) : Flies X B al n σ c fs m' :=
  let ⟨Wx, t, a⟩ := h
  ⟨Wx, t, fun B2 al2 cls oa H2 e2 g2 wd r => a B2 al2 σ cls oa H2 e2 g2 wd (rs.mono e2 g2 l) r⟩
/-- an expression, then the rest of the statement -/
def sbd {α : Type} (x : Run α) (ρ : Slots) (k : α → Mem → SR) : SR := match x with
  | none => none
  | some (.ok a, m) => k a m
  | some (.ex c fs, m) => some (.ex c fs ρ, m)
@[simp] theorem sbd_ok {α : Type} (a : α) (m : Mem) (ρ : Slots) (k : α → Mem → SR) : sbd (some (.ok a, m)) ρ k = k a m := rfl
@[simp] theorem sbd_ret {α : Type} (a : α) (m : Mem) (ρ : Slots) (k : α → Mem → SR) : sbd (ret a m) ρ k = k a m := rfl
@[simp] theorem sbd_rd (d : D) (m : Mem) (ρ : Slots) (k : W → Mem → SR) : sbd (rd d m) ρ k = k (.dat d) m := rfl
@[simp] theorem sbd_ex {α : Type} (c : Str) (fs : List (Str × D)) (m : Mem) (ρ : Slots) (k : α → Mem → SR) : sbd (some (.ex c fs, m)) ρ k = some (.ex c fs ρ, m) := rfl
theorem sbd_cases {α : Type} {x : Run α} {ρ : Slots} {k : α → Mem → SR} {f : Fl} {m' : Mem} (h : sbd x ρ k = some (f, m')) : (∃ a m1, x = some (.ok a, m1) ∧ k a m1 = some (f, m')) ∨ ∃ c fs, x = some (.ex c fs, m') ∧ f = .ex c fs ρ := by
  cases x with
  | none => cases h
  | some p =>
    obtain ⟨o1, m1⟩ := p
    cases o1 with
    | ok a => exact .inl ⟨a, m1, rfl, h⟩
    | ex c fs =>
      have e : (some (Fl.ex c fs ρ, m1) : SR) = some (f, m') := h
      cases e
      exact .inr ⟨c, fs, rfl, rfl⟩
theorem sbd_len {α : Type} {x : Run α} {ρ : Slots} {k : α → Mem → SR} {f : Fl} {m m' : Mem} (h : sbd x ρ k = some (f, m')) (h1 : ∀ o1 m1, x = some (o1, m1) → m.length ≤ m1.length) (h2 : ∀ a m1, k a m1 = some (f, m') → m1.length ≤ m'.length) : m.length ≤ m'.length := by
  rcases sbd_cases h with ⟨w, m1, e1, e2⟩ | ⟨c, fs, e1, rfl⟩
  · exact Nat.le_trans (h1 _ _ e1) (h2 _ _ e2)
  · exact h1 _ _ e1
def wS (X : Cx) (st : Stmt) : TS := fun D σ H => ∀ (pins : List (Addr × Obj)) (s : Shared), Inv X pins σ H s → wpAny (model X.prog X.w) X.A (exec st X.env) (SP X pins D) X.xe s
theorem ps_w {X : Cx} {st : Stmt} : PS X st (wS X st) := ⟨fun pins s σ H D I h => h pins s I⟩
def wSs (X : Cx) (st : List Stmt) : TS := fun D σ H => ∀ (pins : List (Addr × Obj)) (s : Shared), Inv X pins σ H s → wpAny (model X.prog X.w) X.A (execs st X.env) (SP X pins D) X.xe s
theorem pss_w {X : Cx} {st : List Stmt} : PSs X st (wSs X st) := ⟨fun pins s σ H D I h => h pins s I⟩
structure SS (X : Cx) (st : Stmt) (mm : SM) : Prop where
  len : ∀ ρ m f m', mm ρ m = some (f, m') → m.length ≤ m'.length
  run : ∀ ρ m f m', mm ρ m = some (f, m') → ∀ B al σ H D, Wd X.K B al m H → RepS X.K B al m.length σ ρ → AnsF X B al m.length D m' f → wS X st D σ H
structure SSs (X : Cx) (st : List Stmt) (mm : SM) : Prop where
  len : ∀ ρ m f m', mm ρ m = some (f, m') → m.length ≤ m'.length
  run : ∀ ρ m f m', mm ρ m = some (f, m') → ∀ B al σ H D, Wd X.K B al m H → RepS X.K B al m.length σ ρ → AnsF X B al m.length D m' f → wSs X st D σ H
def sSeq (a b : SM) : SM := fun ρ m => match a ρ m with
  | some (.nx ρ1, m1) => b ρ1 m1
  | x => x
def sNil : SM := fun ρ m => some (.nx ρ, m)
@[simp] theorem sSeq_nx {a b : SM} {ρ ρ1 : Slots} {m m1 : Mem} (h : a ρ m = some (.nx ρ1, m1)) : sSeq a b ρ m = b ρ1 m1 := by
  unfold sSeq; rw [h]
theorem sSeq_cases {a b : SM} {ρ : Slots} {m m' : Mem} {f : Fl} (h : sSeq a b ρ m = some (f, m')) : (∃ ρ1 m1, a ρ m = some (.nx ρ1, m1) ∧ b ρ1 m1 = some (f, m')) ∨ (a ρ m = some (f, m') ∧ ∀ ρ1, f ≠ .nx ρ1) := by
  unfold sSeq at h
  split at h
  · next ρ1 m1 e => exact .inl ⟨ρ1, m1, e, h⟩
  · next e => exact .inr ⟨h, fun ρ1 q => e ρ1 m' (by rw [h, q])⟩
section
variable {X : Cx} {st : Stmt} {rest : List Stmt} {a b : SM} {e : Expr} {me : EM} {pos : Pos}
theorem AnsF.nxAny {B : Hp} {al : Pl} {n : Nat} {D : Ends} {m' : Mem} {f : Fl} (h : AnsF X B al n D m' f) (hn : ∀ ρ, f ≠ .nx ρ) (N : L2.St → Hp → Prop) : AnsF X B al n { D with nx := N } m' f := by
  cases f with
  | nx ρ => exact absurd rfl (hn ρ)
  | _ => exact h
theorem sss_nil : SSs X [] sNil := ⟨fun ρ m f m' q => by cases q; exact Nat.le_refl _, fun ρ m f m' q B al σ H D wd rs h pins s I => by
  cases q
  exact pss_nil.run pins s σ H D I (h B al σ H (Ex.refl B) Agr.refl wd rs)⟩
theorem sss_cons (h1 : SS X st a) (h2 : SSs X rest b) : SSs X (st :: rest) (sSeq a b) := by
  refine ⟨fun ρ m f m' q => ?_, fun ρ m f m' q B al σ H D wd rs h pins s I => (pss_cons ps_w pss_w).run pins s σ H D I ?_⟩
  · rcases sSeq_cases q with ⟨ρ1, m1, e1, e2⟩ | ⟨e1, _⟩
    · exact Nat.le_trans (h1.len _ _ _ _ e1) (h2.len _ _ _ _ e2)
    · exact h1.len _ _ _ _ e1
  · rcases sSeq_cases q with ⟨ρ1, m1, e1, e2⟩ | ⟨e1, hn⟩
    · exact h1.run _ _ _ _ e1 B al σ H _ wd rs fun B1 al1 σ1 H1 ex1 g1 wd1 rs1 => h2.run _ _ _ _ e2 B1 al1 σ1 H1 D wd1 rs1 (h.mono ex1 g1 (h1.len _ _ _ _ e1))
    · exact h1.run _ _ _ _ e1 B al σ H _ wd rs (h.nxAny hn _)
theorem sss_one (h1 : SS X st a) : SSs X [st] a := ⟨h1.len, fun ρ m f m' q B al σ H D wd rs h pins s I => (pss_one ps_w).run pins s σ H D I (h1.run _ _ _ _ q B al σ H D wd rs h)⟩
/-- an expression in a statement -/
theorem SE.ssq {B : Hp} {al : Pl} {σ : L2.St} {H : Hp} {ρ : Slots} {m m' : Mem} {f : Fl} {D : Ends} {k : W → Mem → SR} {Q' : VK} (he : SE X e me) (hr : sbd (me ρ m) ρ k = some (f, m')) (wd : Wd X.K B al m H) (rs : RepS X.K B al m.length σ ρ) (h : AnsF X B al m.length D m' f)
    (hk : ∀ w m1, k w m1 = some (f, m') → m.length ≤ m1.length → AnsW X.K B al m.length w m1 Q') : wE X e σ H Q' := by
  rcases sbd_cases hr with ⟨w, m1, e1, e2⟩ | ⟨c, fs, e1, rfl⟩
  · exact he.run ρ m _ _ e1 B al σ H Q' wd rs (hk w m1 e2 (he.len _ _ _ _ e1))
  · exact he.run ρ m _ _ e1 B al σ H Q' wd rs (SFlies.at h rs (he.len _ _ _ _ e1))
theorem ST.ssq {B : Hp} {al : Pl} {σ : L2.St} {H : Hp} {ρ : Slots} {m m' : Mem} {f : Fl} {D : Ends} {k : Bool → Mem → SR} {Q' : Bool → Hp → Prop} {mt : TM} (he : ST X e mt) (hr : sbd (mt ρ m) ρ k = some (f, m')) (wd : Wd X.K B al m H) (rs : RepS X.K B al m.length σ ρ) (h : AnsF X B al m.length D m' f)
    (hk : ∀ b m1, k b m1 = some (f, m') → m.length ≤ m1.length → ∀ B' al' H', Ex B B' → Agr m.length al al' → Wd X.K B' al' m1 H' → Q' b H') : wT X e σ H Q' := by
  rcases sbd_cases hr with ⟨w, m1, e1, e2⟩ | ⟨c, fs, e1, rfl⟩
  · exact he.run ρ m _ _ e1 B al σ H Q' wd rs (hk w m1 e2 (he.len _ _ _ _ e1))
  · exact he.run ρ m _ _ e1 B al σ H Q' wd rs (SFlies.at h rs (he.len _ _ _ _ e1))
theorem SA.ssq {B : Hp} {al : Pl} {σ : L2.St} {H : Hp} {ρ : Slots} {m m' : Mem} {f : Fl} {D : Ends} {k : List W → Mem → SR} {Q' : List V → Hp → Prop} {es : List Expr} {mt : AM} (he : SA X es mt) (hr : sbd (mt ρ m) ρ k = some (f, m')) (wd : Wd X.K B al m H) (rs : RepS X.K B al m.length σ ρ) (h : AnsF X B al m.length D m' f)
    (hk : ∀ ws m1, k ws m1 = some (f, m') → m.length ≤ m1.length → ∀ B' al' vs H', Ex B B' → Agr m.length al al' → Wd X.K B' al' m1 H' → RepL X.K B' al' m1.length vs ws → Q' vs H') : wA X es σ H Q' := by
  rcases sbd_cases hr with ⟨w, m1, e1, e2⟩ | ⟨c, fs, e1, rfl⟩
  · exact he.run ρ m _ _ e1 B al σ H Q' wd rs (hk w m1 e2 (he.len _ _ _ _ e1))
  · exact he.run ρ m _ _ e1 B al σ H Q' wd rs (SFlies.at h rs (he.len _ _ _ _ e1))
/-- name = e -/
def sSet (i : Nat) (me : EM) : SM := fun ρ m => sbd (me ρ m) ρ fun w m1 => some (.nx (ρ.set i (some w)), m1)
theorem ss_set (i : Nat) {x : Str} {pos' : Pos} (hN : X.N.Nodup) (hi : X.N[i]? = some x) (hx : Loc X.env.scope x) (he : SE X e me) (hs : swapsWith e (some (.Name x pos')) pos.line X.env = pure false) (hf : X.fn x = true ∨ X.env.scope.names.lookup x = some .local) :
    SS X (.Assign [.Name x pos'] e pos) (sSet i me) := by
  refine ⟨fun ρ m f m' q => sbd_len q (he.len ρ m) fun w m1 q1 => by cases q1; exact Nat.le_refl _, fun ρ m f m' q B al σ H D wd rs h pins s I => (ps_set hN hi hx pe_w hs hf).run pins s σ H D I ?_⟩
  refine he.ssq q wd rs h fun w m1 q1 l1 B1 al1 v1 H1 e1 g1 wd1 r1 => ?_
  cases q1
  exact h B1 al1 _ H1 e1 g1 wd1 ((rs.mono e1 g1 l1).set r1)
/-- return e -/
def sRet (me : EM) : SM := fun ρ m => sbd (me ρ m) ρ fun w m1 => some (.rt w, m1)
theorem ss_ret (he : SE X e me) : SS X (.Return (some e) pos) (sRet me) := by
  refine ⟨fun ρ m f m' q => sbd_len q (he.len ρ m) fun w m1 q1 => by cases q1; exact Nat.le_refl _, fun ρ m f m' q B al σ H D wd rs h pins s I => (ps_ret pe_w).run pins s σ H D I ?_⟩
  refine he.ssq q wd rs h fun w m1 q1 l1 B1 al1 v1 H1 e1 g1 wd1 r1 => ?_
  cases q1
  exact h B1 al1 v1 H1 e1 g1 wd1 r1
def sRetN : SM := fun _ m => some (.rt (.dat .non), m)
theorem ss_retN : SS X (.Return none pos) sRetN := ⟨fun ρ m f m' q => by cases q; exact Nat.le_refl _, fun ρ m f m' q B al σ H D wd rs h pins s I => by
  cases q
  exact ps_retN.run pins s σ H D I (h B al .non H (Ex.refl B) Agr.refl wd .non)⟩
def sPass : SM := fun ρ m => some (.nx ρ, m)
theorem ss_pass : SS X (.Pass pos) sPass := ⟨fun ρ m f m' q => by cases q; exact Nat.le_refl _, fun ρ m f m' q B al σ H D wd rs h pins s I => by
  cases q
  exact ps_pass.run pins s σ H D I (h B al σ H (Ex.refl B) Agr.refl wd rs)⟩
def sBreak : SM := fun ρ m => some (.bk ρ, m)
theorem ss_break : SS X (.Break pos) sBreak := ⟨fun ρ m f m' q => by cases q; exact Nat.le_refl _, fun ρ m f m' q B al σ H D wd rs h pins s I => by
  cases q
  exact ps_break.run pins s σ H D I (h B al σ H (Ex.refl B) Agr.refl wd rs)⟩
def sCont : SM := fun ρ m => some (.ct ρ, m)
theorem ss_continue : SS X (.Continue pos) sCont := ⟨fun ρ m f m' q => by cases q; exact Nat.le_refl _, fun ρ m f m' q B al σ H D wd rs h pins s I => by
  cases q
  exact ps_continue.run pins s σ H D I (h B al σ H (Ex.refl B) Agr.refl wd rs)⟩
/-- an expression whose value is dropped -/
def sDrop (me : EM) : SM := fun ρ m => sbd (me ρ m) ρ fun _ m1 => some (.nx ρ, m1)
theorem ss_expr (he : SE X e me) (hs : swapsWith e none pos.line X.env = pure false) : SS X (.Expr e pos) (sDrop me) := by
  refine ⟨fun ρ m f m' q => sbd_len q (he.len ρ m) fun w m1 q1 => by cases q1; exact Nat.le_refl _, fun ρ m f m' q B al σ H D wd rs h pins s I => (ps_expr pe_w hs).run pins s σ H D I ?_⟩
  refine he.ssq q wd rs h fun w m1 q1 l1 B1 al1 v1 H1 e1 g1 wd1 r1 => ?_
  cases q1
  exact h B1 al1 σ H1 e1 g1 wd1 (rs.mono e1 g1 l1)
theorem ss_doc {x : Str} {j : Option Str} {k : Nat} {pos' : Pos} : SS X (.Expr (.Constant (.str x) k pos) pos') sPass := ⟨fun ρ m f m' q => by cases q; exact Nat.le_refl _, fun ρ m f m' q B al σ H D wd rs h pins s I => by
  cases q
  exact ps_doc.run pins s σ H D I (h B al σ H (Ex.refl B) Agr.refl wd rs)⟩
def sIf (mt : TM) (a b : SM) : SM := fun ρ m => sbd (mt ρ m) ρ fun c m1 => match c with
  | true => a ρ m1
  | false => b ρ m1
theorem ss_if {c : Expr} {mt : TM} {sa sb : List Stmt} (hc : ST X c mt) (ha : SSs X sa a) (hb : SSs X sb b) : SS X (.If c sa sb pos) (sIf mt a b) := by
  refine ⟨fun ρ m f m' q => sbd_len q (hc.len ρ m) fun w m1 q1 => by
    cases w with
    | true => exact ha.len _ _ _ _ q1
    | false => exact hb.len _ _ _ _ q1, fun ρ m f m' q B al σ H D wd rs h pins s I => (ps_if pt_w pss_w pss_w).run pins s σ H D I ?_⟩
  refine hc.ssq q wd rs h fun w m1 q1 l1 B1 al1 H1 e1 g1 wd1 => ?_
  cases w with
  | true =>
    rw [if_pos rfl]
    exact ha.run _ _ _ _ q1 B1 al1 σ H1 D wd1 (rs.mono e1 g1 l1) (h.mono e1 g1 l1)
  | false =>
    rw [if_neg Bool.false_ne_true]
    exact hb.run _ _ _ _ q1 B1 al1 σ H1 D wd1 (rs.mono e1 g1 l1) (h.mono e1 g1 l1)
end

/-! ### targets -/
/-- a target takes a value -/
abbrev GM := W → Slots → Mem → SR
def GNx (mg : GM) : Prop := ∀ w ρ m f m', mg w ρ m = some (f, m') → ∃ ρ', f = .nx ρ'
structure SG (X : Cx) (tg : Expr) (mg : GM) : Prop where
  len : ∀ w ρ m f m', mg w ρ m = some (f, m') → m.length ≤ m'.length
  nx : GNx mg
  run : ∀ w ρ m ρ' m', mg w ρ m = some (.nx ρ', m') → ∀ B al σ H v Q, Wd X.K B al m H → RepS X.K B al m.length σ ρ → RepW X.K B al m.length v w → AnsN X.K B al m.length ρ' m' Q →
    ∀ (pins : List (Addr × Obj)) (s : Shared) (u : Value), Inv X pins σ H s → RelV v u → wpAny (model X.prog X.w) X.A (assign tg X.env u) (fun _ s' => ∃ σ' H', Inv X pins σ' H' s' ∧ Q σ' H') X.xe s
def gSet (i : Nat) : GM := fun w ρ m => some (.nx (ρ.set i (some w)), m)
def wG (X : Cx) (tg : Expr) : TG := fun v σ H Q => ∀ (pins : List (Addr × Obj)) (s : Shared) (u : Value), Inv X pins σ H s → RelV v u → wpAny (model X.prog X.w) X.A (assign tg X.env u) (fun _ s' => ∃ σ' H', Inv X pins σ' H' s' ∧ Q σ' H') X.xe s
theorem pg_w {X : Cx} {tg : Expr} : PG X tg (wG X tg) := ⟨fun pins s σ H v u Q I r h => h pins s u I r⟩
section
variable {X : Cx} {pos : Pos}
theorem sg_name (i : Nat) {x : Str} (hN : X.N.Nodup) (hi : X.N[i]? = some x) (hx : Loc X.env.scope x) (hf : X.fn x = true ∨ X.env.scope.names.lookup x = some .local) : SG X (.Name x pos) (gSet i) := by
  refine ⟨fun w ρ m f m' q => by cases q; exact Nat.le_refl _, fun w ρ m f m' q => by cases q; exact ⟨_, rfl⟩, fun w ρ m ρ' m' q B al σ H v Q wd rs r h pins s u I ru => (pg_name hN hi hx hf).run pins s σ H v u Q I ru ?_⟩
  cases q
  exact h B al _ H (Ex.refl B) Agr.refl wd (rs.set r)
/-- several targets, in turn -/
structure SGs (X : Cx) (ts : List Expr) (mg : List W → Slots → Mem → SR) : Prop where
  len : ∀ ws ρ m f m', mg ws ρ m = some (f, m') → m.length ≤ m'.length
  nx : ∀ ws ρ m f m', mg ws ρ m = some (f, m') → ∃ ρ', f = .nx ρ'
  run : ∀ ws ρ m ρ' m', mg ws ρ m = some (.nx ρ', m') → ∀ B al σ H vs Q, Wd X.K B al m H → RepS X.K B al m.length σ ρ → RepL X.K B al m.length vs ws → AnsN X.K B al m.length ρ' m' Q →
    ∀ (pins : List (Addr × Obj)) (s : Shared) (us : List Value), Inv X pins σ H s → Vals vs us → wpAny (model X.prog X.w) X.A (assignInOrder ((assignEach ts X.env).map (·.2)) us) (fun _ s' => ∃ σ' H', Inv X pins σ' H' s' ∧ Q σ' H') X.xe s
def wGs (X : Cx) (ts : List Expr) : TGs := fun vs σ H Q => ∀ (pins : List (Addr × Obj)) (s : Shared) (us : List Value), Inv X pins σ H s → Vals vs us → wpAny (model X.prog X.w) X.A (assignInOrder ((assignEach ts X.env).map (·.2)) us) (fun _ s' => ∃ σ' H', Inv X pins σ' H' s' ∧ Q σ' H') X.xe s
theorem pgs_w {ts : List Expr} : PGs X ts (wGs X ts) := ⟨fun pins s σ H vs us Q I r h => h pins s us I r⟩
def gNils : List W → Slots → Mem → SR := fun ws ρ m => match ws with
  | [] => some (.nx ρ, m)
  | _ => none
def gConss (g : GM) (gs : List W → Slots → Mem → SR) : List W → Slots → Mem → SR := fun ws ρ m => match ws with
  | w :: r => (match g w ρ m with
    | some (.nx ρ1, m1) => gs r ρ1 m1
    | _ => none)
  | [] => none
theorem sgs_nil : SGs X [] gNils := by
  refine ⟨fun ws ρ m f m' q => ?_, fun ws ρ m f m' q => ?_, fun ws ρ m ρ' m' q B al σ H vs Q wd rs r h pins s us I ru => ?_⟩
  · cases ws with
    | nil => cases q; exact Nat.le_refl _
    | cons => cases q
  · cases ws with
    | nil => cases q; exact ⟨_, rfl⟩
    | cons => cases q
  · cases ws with
    | cons => cases q
    | nil =>
      cases q
      cases vs with
      | cons => exact r.elim
      | nil => exact pgs_nil.run pins s σ H [] us Q I ru ⟨rfl, h B al σ H (Ex.refl B) Agr.refl wd rs⟩
theorem gConss_cases {g : GM} {gs : List W → Slots → Mem → SR} {ws : List W} {ρ : Slots} {m m' : Mem} {f : Fl} (q : gConss g gs ws ρ m = some (f, m')) : ∃ w r ρ1 m1, ws = w :: r ∧ g w ρ m = some (.nx ρ1, m1) ∧ gs r ρ1 m1 = some (f, m') := by
  cases ws with
  | nil => cases q
  | cons w r =>
    have q' : (match g w ρ m with
      | some (.nx ρ1, m1) => gs r ρ1 m1
      | _ => none) = some (f, m') := q
    split at q'
    · next ρ1 m1 e => exact ⟨w, r, ρ1, m1, rfl, e, q'⟩
    · cases q'
/-- a target without a star -/
theorem assignEach_cons {e : Expr} {es : List Expr} {env : Env} (h : noStar e = true) : (assignEach (e :: es) env).map (·.2) = assign e env :: (assignEach es env).map (·.2) := by
  cases e <;> first | rfl | cases h
theorem assignEach_len {env : Env} : ∀ {es : List Expr}, (assignEach es env).length = es.length
  | [] => rfl
  | e :: r => by
    cases e <;> exact congrArg (· + 1) (assignEach_len (env := env) (es := r))
theorem assignEach_star {env : Env} : ∀ {es : List Expr}, es.all noStar = true → (assignEach es env).findIdx? (·.1) = none
  | [], _ => rfl
  | e :: r, h => by
    have h' : (noStar e && r.all noStar) = true := by simpa using h
    rw [Bool.and_eq_true] at h'
    have ih := assignEach_star (env := env) (es := r) h'.2
    have e2 : ∃ t, assignEach (e :: r) env = (false, t) :: assignEach r env := by
      cases e <;> first | exact ⟨_, rfl⟩ | cases h'.1
    obtain ⟨t, e2⟩ := e2
    rw [e2, List.findIdx?_cons, ih]
    rfl
theorem sgs_cons {e : Expr} {es : List Expr} {g : GM} {gs : List W → Slots → Mem → SR} (h1 : SG X e g) (h2 : SGs X es gs) (hs : noStar e = true := by rfl) : SGs X (e :: es) (gConss g gs) := by
  refine ⟨fun ws ρ m f m' q => ?_, fun ws ρ m f m' q => ?_, fun ws ρ m ρ' m' q B al σ H vs Q wd rs r h pins s us I ru => ?_⟩
  · obtain ⟨w, r, ρ1, m1, rfl, e1, e2⟩ := gConss_cases q
    exact Nat.le_trans (h1.len _ _ _ _ _ e1) (h2.len _ _ _ _ _ e2)
  · obtain ⟨w, r, ρ1, m1, rfl, e1, e2⟩ := gConss_cases q
    exact h2.nx _ _ _ _ _ e2
  · obtain ⟨w, rw_, ρ1, m1, rfl, e1, e2⟩ := gConss_cases q
    cases vs with
    | nil => exact r.elim
    | cons v vr =>
      refine (pgs_cons pg_w pgs_w (assignEach_cons hs)).run pins s σ H (v :: vr) us Q I ru ⟨v, vr, rfl, ?_⟩
      refine h1.run w ρ m ρ1 m1 e1 B al σ H v _ wd rs r.1 fun B1 al1 σ1 H1 ex1 g1 wd1 rs1 => ?_
      exact h2.run rw_ ρ1 m1 ρ' m' e2 B1 al1 σ1 H1 vr Q wd1 rs1 (r.2.mono ex1 g1 (h1.len _ _ _ _ _ e1)) (h.mono ex1 g1 (h1.len _ _ _ _ _ e1))
/-- (a, b, ..) = a tuple -/
def gTupM (n : Nat) (gs : List W → Slots → Mem → SR) : GM := fun w ρ m => match w with
  | .dat (.tup ds) => if ds.length = n then gs (ds.map .dat) ρ m else none
  | _ => none
theorem RepL.ofD {K : PySem.W.Frag} {B : Hp} {al : Pl} {n : Nat} : ∀ {vs : List V} {ds : List D}, Reps K B vs ds → RepL K B al n vs (ds.map .dat)
  | _, _, .nil => trivial
  | _, _, .cons r rs => ⟨r, RepL.ofD rs⟩
theorem gTupM_cases {n : Nat} {gs : List W → Slots → Mem → SR} {w : W} {ρ : Slots} {m m' : Mem} {f : Fl} (q : gTupM n gs w ρ m = some (f, m')) : ∃ ds, w = .dat (.tup ds) ∧ ds.length = n ∧ gs (ds.map .dat) ρ m = some (f, m') := by
  unfold gTupM at q
  split at q
  · next ds =>
    split at q
    · next hl => exact ⟨ds, rfl, hl, q⟩
    · cases q
  · cases q
theorem sg_tup {es : List Expr} {k : Nat} {gs : List W → Slots → Mem → SR} (hc : X.calm = true) (h : SGs X es gs) (hs : es.all noStar = true := by rfl) : SG X (.Tuple es k pos) (gTupM es.length gs) := by
  refine ⟨fun w ρ m f m' q => ?_, fun w ρ m f m' q => ?_, fun w ρ m ρ' m' q B al σ H v Q wd rs r ha pins s u I ru => ?_⟩
  · obtain ⟨ds, rfl, hl, q1⟩ := gTupM_cases q
    exact h.len _ _ _ _ _ q1
  · obtain ⟨ds, rfl, hl, q1⟩ := gTupM_cases q
    exact h.nx _ _ _ _ _ q1
  · obtain ⟨ds, rfl, hl, q1⟩ := gTupM_cases q
    obtain ⟨a, vs, rfl, ⟨hq, _⟩, rr⟩ : ∃ a vs, v = .ref a ∧ (SqT X.K H a vs ∧ SqT X.K B a vs) ∧ Reps X.K B vs ds := Rep.vw wd.ext (show Rep X.K B v (.tup ds) from r)
    refine (pg_tup hc pgs_w assignEach_len (assignEach_star hs)).run pins s σ H _ u Q I ru ⟨a, vs, rfl, hq, rr.length.trans hl, ?_⟩
    exact h.run _ ρ m ρ' m' q1 B al σ H vs Q wd rs (RepL.ofD rr) ha
/-- target = e -/
def sAsg (me : EM) (mg : GM) : SM := fun ρ m => sbd (me ρ m) ρ fun w m1 => mg w ρ m1
theorem ss_asg {tg e : Expr} {me : EM} {mg : GM} (he : SE X e me) (hg : SG X tg mg) (hs : swapsWithSole [tg] e pos.line X.env = pure false) (hw : swappedStores [tg] e X.env = pure none) (hn : noStar tg = true := by rfl) : SS X (.Assign [tg] e pos) (sAsg me mg) := by
  refine ⟨fun ρ m f m' q => sbd_len q (he.len ρ m) fun w m1 q1 => hg.len _ _ _ _ _ q1, fun ρ m f m' q B al σ H D wd rs h pins s I => (ps_asg pe_w pg_w hs hw (assignEach_cons hn)).run pins s σ H D I ?_⟩
  refine he.ssq q wd rs h fun w m1 q1 l1 B1 al1 v1 H1 e1 g1 wd1 r1 => ?_
  obtain ⟨ρ', rfl⟩ := hg.nx _ _ _ _ _ q1
  exact hg.run w ρ m1 ρ' m' q1 B1 al1 σ H1 v1 D.nx wd1 (rs.mono e1 g1 l1) r1 (AnsN.mono e1 g1 l1 h)
/-- a, b = x, y with plain names -/
def sPar (i j : Nat) (ma : AM) : SM := fun ρ m => sbd (ma ρ m) ρ fun ws m1 => match ws with
  | [v, w] => some (.nx ((ρ.set i (some v)).set j (some w)), m1)
  | _ => none
theorem ss_par (i j : Nat) {x y : Str} {a b : Expr} {ma : AM} {px py pt : Pos} {kt k2 : Nat} {pt2 : Pos} (hc : X.calm = true) (hN : X.N.Nodup) (hi : X.N[i]? = some x) (hj : X.N[j]? = some y) (hij : i ≠ j)
    (hx : X.env.scope.names.lookup x = some .local) (hy : X.env.scope.names.lookup y = some .local) (ha : SA X [a, b] ma)
    (hw : swappedStores [.Tuple [.Name x px, .Name y py] kt pt] (.Tuple [a, b] k2 pt2) X.env = pure (some [x, y]))
    (hs : swapsWithSole [.Tuple [.Name x px, .Name y py] kt pt] (.Tuple [a, b] k2 pt2) pos.line X.env = pure false) :
    SS X (.Assign [.Tuple [.Name x px, .Name y py] kt pt] (.Tuple [a, b] k2 pt2) pos) (sPar i j ma) := by
  have inv : ∀ {ws : List W} {ρ : Slots} {m1 m' : Mem} {f : Fl}, (match ws with
    | [v, w] => (some (Fl.nx ((ρ.set i (some v)).set j (some w)), m1) : SR)
    | _ => none) = some (f, m') → ∃ v w, ws = [v, w] ∧ f = .nx ((ρ.set i (some v)).set j (some w)) ∧ m' = m1 := fun {ws ρ m1 m' f} q => by
    split at q
    · cases q; exact ⟨_, _, rfl, rfl, rfl⟩
    · cases q
  refine ⟨fun ρ m f m' q => sbd_len q (ha.len ρ m) fun w m1 q1 => by
    obtain ⟨_, _, _, _, rfl⟩ := inv q1
    exact Nat.le_refl _, fun ρ m f m' q B al σ H D wd rs h pins s I => (ps_par hc hN hi hj hij hx hy pa_w hw hs).run pins s σ H D I ?_⟩
  refine ha.ssq q wd rs h fun ws m1 q1 l1 B1 al1 vs1 H1 e1 g1 wd1 r1 => ?_
  obtain ⟨v, w, rfl, rfl, rfl⟩ := inv q1
  match vs1, r1 with
  | [a1, b1], r1 => exact ⟨a1, b1, rfl, h B1 al1 _ H1 e1 g1 wd1 (((rs.mono e1 g1 l1).set r1.1).set r1.2.1)⟩
end

/-! ### a def keeps its promise -/
/-- the body, from the arguments to what is handed back -/
def mFn (N : List Str) (body : SM) : FM := fun ws m => match body (ws.map some ++ List.replicate (N.length - ws.length) none) m with
  | some (.rt w, m1) => some (.ok w, m1)
  | some (.nx _, m1) => rd .non m1
  | some (.ex c fs _, m1) => some (.ex c fs, m1)
  | _ => none
theorem mFn_cases {N : List Str} {body : SM} {ws : List W} {m m' : Mem} {o : Out W} (q : mFn N body ws m = some (o, m')) :
    (∃ w, body (ws.map some ++ List.replicate (N.length - ws.length) none) m = some (.rt w, m') ∧ o = .ok w) ∨ (∃ ρ, body (ws.map some ++ List.replicate (N.length - ws.length) none) m = some (.nx ρ, m') ∧ o = .ok (.dat .non)) ∨
      ∃ c fs ρ, body (ws.map some ++ List.replicate (N.length - ws.length) none) m = some (.ex c fs ρ, m') ∧ o = .ex c fs := by
  unfold mFn at q
  split at q
  · next w m1 e => cases q; exact .inl ⟨w, e, rfl⟩
  · next ρ m1 e => cases q; exact .inr (.inl ⟨ρ, e, rfl⟩)
  · next c fs ρ m1 e => cases q; exact .inr (.inr ⟨c, fs, ρ, e, rfl⟩)
  · cases q
theorem repS_start {K : PySem.W.Frag} {B : Hp} {al : Pl} {n : Nat} {N : List Str} : ∀ {vs : List V} {ws : List W}, RepL K B al n vs ws → RepS K B al n (L2.start N vs) (ws.map some ++ List.replicate (N.length - ws.length) none) := by
  intro vs ws r
  have hl := r.length
  refine ⟨by unfold L2.start; simp [hl], fun i w hw => ?_⟩
  have get : ∀ {vs : List V} {ws : List W} {i : Nat}, RepL K B al n vs ws → ws[i]? = some w → ∃ v, vs[i]? = some v ∧ RepW K B al n v w := by
    intro vs
    induction vs with
    | nil =>
      intro ws i r e
      cases ws with
      | nil => simp at e
      | cons => exact r.elim
    | cons v vs ih =>
      intro ws i r e
      cases ws with
      | nil => exact r.elim
      | cons w' ws =>
        cases i with
        | zero =>
          have : w' = w := by simpa using e
          subst this
          exact ⟨v, rfl, r.1⟩
        | succ i =>
          obtain ⟨v', h1, h2⟩ := ih (i := i) r.2 (by simpa using e)
          exact ⟨v', by simpa using h1, h2⟩
  rw [List.getElem?_append] at hw
  split at hw
  · next hi =>
    rw [List.getElem?_map] at hw
    cases q : ws[i]? with
    | none => rw [q] at hw; cases hw
    | some w' =>
      rw [q] at hw
      have e : w' = w := by simpa using hw
      subst e
      obtain ⟨v, h1, h2⟩ := get r q
      refine ⟨v, ?_, h2⟩
      unfold L2.start
      have hi' : i < (vs.map some).length := by simpa [hl] using hi
      rw [List.getElem?_append_left hi', List.getElem?_map, h1]
      rfl
  · rw [List.getElem?_replicate] at hw
    split at hw <;> cases hw
end Dm
/-! Dm, part 5: what is walked; loops; comprehensions; the rule for a def. -/
namespace Dm
open PySem PySem.Spec PyProof.Rows L2
open Evl (Ex)
variable [Lams]

/-! ### what is walked -/
/-- from a frozen heap on, the iterator gives these data -/
def Yields (K : PySem.W.Frag) (B1 : Hp) (J : It) (ds : List D) : Prop := ∀ (i : Nat) (B H : Hp), Ex B1 B → Ex B H →
  (∀ d, ds[i]? = some d → J.go i H ∧ ∀ x H', J.yld i H x H' → ∃ B', Gr B B' H H' ∧ Rep K B' x d) ∧ (ds.length ≤ i → J.stop i H)
abbrev IM := Slots → Mem → Run (List D)
def wI (X : Cx) (tg iter : Expr) : TI := fun σ H R => ∀ (pins : List (Addr × Obj)) (s : Shared), Inv X pins σ H s →
  wpAny (model X.prog X.w) X.A (eval iter X.env) (fun v s1 => wpAny (model X.prog X.w) X.A (pyIter v) (PIE X pins σ tg R) X.xe s1) X.xe s
theorem pi_w {X : Cx} {tg iter : Expr} : PI X tg iter (wI X tg iter) := ⟨fun pins s σ H R I h => h pins s I⟩
def AnsI (X : Cx) (B : Hp) (al : Pl) (n : Nat) (σ : L2.St) (R : It → Hp → Prop) (m' : Mem) : Out (List D) → Prop
  | .ok ds => ∀ B' al' J H', Ex B B' → Agr n al al' → Wd X.K B' al' m' H' → Yields X.K B' J ds → R J H'
  | .ex c fs => Flies X B al n σ c fs m'
structure SI (X : Cx) (tg iter : Expr) (mi : IM) : Prop where
  len : ∀ ρ m o m', mi ρ m = some (o, m') → m.length ≤ m'.length
  run : ∀ ρ m o m', mi ρ m = some (o, m') → ∀ B al σ H R, Wd X.K B al m H → RepS X.K B al m.length σ ρ → AnsI X B al m.length σ R m' o → wI X tg iter σ H R
theorem AnsI.res {X : Cx} {B : Hp} {al : Pl} {n : Nat} {σ : L2.St} {R : It → Hp → Prop} {m' : Mem} {o : Out (List D)} (h : AnsI X B al n σ R m' o) : Res X B al n σ m' o := fun c fs e => by subst e; exact h
section
variable {K : PySem.W.Frag} {B1 : Hp}
theorem yields_list {a : Addr} {vs : List V} {ds : List D} (h : SqL K B1 a vs) (r : Reps K B1 vs ds) : Yields K B1 (Itl K a) ds := fun i B H e1 e2 => by
  have hq : SqL K H a vs := Evl.ex_l (e1.trans e2) h
  refine ⟨fun d hd => ?_, fun hl => ⟨vs, hq, by rw [r.length]; exact hl⟩⟩
  obtain ⟨v, hv, rv⟩ := r.get hd
  refine ⟨⟨vs, v, hq, hv⟩, fun x H' y => ?_⟩
  obtain ⟨rfl, y⟩ := y
  have := y vs hq
  rw [hv] at this
  cases this
  exact ⟨B, Gr.refl e2, rv.mono e1⟩
theorem yields_tup {a : Addr} {vs : List V} {ds : List D} (h : SqT K B1 a vs) (r : Reps K B1 vs ds) : Yields K B1 (Itt K a) ds := fun i B H e1 e2 => by
  have hq : SqT K H a vs := Evl.ex_t (e1.trans e2) h
  refine ⟨fun d hd => ?_, fun hl => ⟨vs, hq, by rw [r.length]; exact hl⟩⟩
  obtain ⟨v, hv, rv⟩ := r.get hd
  refine ⟨⟨vs, v, hq, hv⟩, fun x H' y => ?_⟩
  obtain ⟨rfl, y⟩ := y
  have := y vs hq
  rw [hv] at this
  cases this
  exact ⟨B, Gr.refl e2, rv.mono e1⟩
/-- lo, lo + 1, .. -/
def rangeD (lo : Int) (n : Nat) : List D := (List.range n).map fun (i : Nat) => .int (lo + (i : Int))
theorem yields_range {lo : Int} {n : Nat} : Yields K B1 (Itr lo n) (rangeD lo n) := fun i B H e1 e2 => by
  refine ⟨fun d hd => ?_, fun hl => by show n ≤ i; simpa [rangeD] using hl⟩
  unfold rangeD at hd
  rw [List.getElem?_map] at hd
  by_cases hi : i < n
  · rw [List.getElem?_range hi] at hd
    cases hd
    refine ⟨hi, fun x H' y => ?_⟩
    obtain ⟨rfl, rfl⟩ := y
    exact ⟨B, Gr.refl e2, .int _⟩
  · rw [List.getElem?_eq_none (by simpa using hi)] at hd
    cases hd
/-- a text's signs -/
def signsD (x : Str) : List D := x.cps.toList.map fun c => .str ⟨#[c]⟩
theorem yields_str {x : Str} : Yields K B1 (Its x) (signsD x) := fun i B H e1 e2 => by
  refine ⟨fun d hd => ?_, fun hl => by show x.cps.size ≤ i; simpa [signsD] using hl⟩
  unfold signsD at hd
  rw [List.getElem?_map] at hd
  cases q : x.cps.toList[i]? with
  | none => rw [q] at hd; cases hd
  | some c =>
    rw [q] at hd
    cases hd
    have q2 : x.cps[i]? = some c := by simpa using q
    refine ⟨by obtain ⟨h, _⟩ := Array.getElem?_eq_some_iff.mp q2; exact h, fun y H' z => ?_⟩
    obtain ⟨rfl, c', h1, rfl⟩ := z
    rw [q2] at h1
    cases h1
    exact ⟨B, Gr.refl e2, .str _⟩
theorem repK_get : ∀ {kvs : List (Key × V)} {es : List (D × D)} {i : Nat} {p : D × D}, RepK K B1 kvs es → es[i]? = some p → ∃ k v, kvs[i]? = some (k, v) ∧ p.1 = kD k ∧ Rep K B1 v p.2
  | _, _, _, _, .nil, e => by simp at e
  | _, _, 0, _, .cons r _, e => by simp at e; subst e; exact ⟨_, _, rfl, rfl, r⟩
  | _, _, i + 1, _, .cons _ rs, e => by
    obtain ⟨k, v, h1, h2, h3⟩ := repK_get (i := i) rs (by simpa using e)
    exact ⟨k, v, by simpa using h1, h2, h3⟩
theorem RepK.length : ∀ {kvs : List (Key × V)} {es : List (D × D)}, RepK K B1 kvs es → kvs.length = es.length
  | _, _, .nil => rfl
  | _, _, .cons _ rs => congrArg (· + 1) (RepK.length rs)
theorem rep_kD {B : Hp} (k : Key) : Rep K B (kV k) (kD k) := by
  cases k with
  | inl i => exact .int i
  | inr x => exact .str x
theorem yields_keys {d : Addr} {o : Obj} {kvs : List (Key × V)} {es : List (D × D)} (h : B1 d = some (.frz o (.dK kvs))) (r : RepK K B1 kvs es) : Yields K B1 (Itk d o kvs) (es.map (·.1)) := fun i B H e1 e2 => by
  have hq := e2 _ _ (e1 _ _ h)
  refine ⟨fun z hz => ?_, fun hl => ⟨hq, by rw [r.length]; simpa using hl⟩⟩
  rw [List.getElem?_map] at hz
  cases q : es[i]? with
  | none => rw [q] at hz; cases hz
  | some p =>
    rw [q] at hz
    cases hz
    obtain ⟨k, v, h1, h2, h3⟩ := repK_get r q
    refine ⟨⟨hq, (List.getElem?_eq_some_iff.mp h1).1⟩, fun x H' y => ?_⟩
    obtain ⟨rfl, k', v', h4, rfl⟩ := y
    rw [h1] at h4
    cases h4
    show ∃ B', Gr B B' _ _ ∧ Rep K B' (kV k) p.1
    rw [h2]
    exact ⟨B, Gr.refl e2, rep_kD k⟩
theorem yields_vals {d : Addr} {o : Obj} {kvs : List (Key × V)} {es : List (D × D)} (h : B1 d = some (.frz o (.dK kvs))) (r : RepK K B1 kvs es) : Yields K B1 (Itd d o kvs) (es.map (·.2)) := fun i B H e1 e2 => by
  have hq := e2 _ _ (e1 _ _ h)
  refine ⟨fun z hz => ?_, fun hl => ⟨hq, by rw [r.length]; simpa using hl⟩⟩
  rw [List.getElem?_map] at hz
  cases q : es[i]? with
  | none => rw [q] at hz; cases hz
  | some p =>
    rw [q] at hz
    cases hz
    obtain ⟨k, v, h1, h2, h3⟩ := repK_get r q
    refine ⟨⟨hq, (List.getElem?_eq_some_iff.mp h1).1⟩, fun x H' y => ?_⟩
    obtain ⟨rfl, k', h4⟩ := y
    rw [h1] at h4
    cases h4
    exact ⟨B, Gr.refl e2, h3.mono e1⟩
theorem yields_items {d : Addr} {o : Obj} {kvs : List (Key × V)} {es : List (D × D)} (h : B1 d = some (.frz o (.dK kvs))) (r : RepK K B1 kvs es) : Yields K B1 (Iti d o kvs) (es.map fun p => .tup [p.1, p.2]) := fun i B H e1 e2 => by
  have hq := e2 _ _ (e1 _ _ h)
  refine ⟨fun z hz => ?_, fun hl => ⟨hq, by rw [r.length]; simpa using hl⟩⟩
  rw [List.getElem?_map] at hz
  cases q : es[i]? with
  | none => rw [q] at hz; cases hz
  | some p =>
    rw [q] at hz
    cases hz
    obtain ⟨k, v, h1, h2, h3⟩ := repK_get r q
    refine ⟨⟨hq, (List.getElem?_eq_some_iff.mp h1).1⟩, fun x H' y => ?_⟩
    obtain ⟨T, k', v', h4, rfl, hT, rfl⟩ := y
    rw [h1] at h4
    cases h4
    have g := Gr.lay e2 (o := .tup [kV k, v]) hT
    refine ⟨_, g, .tup (.inl (.inl upd_same)) (.cons ?_ (.cons ((h3.mono e1).mono g.b) .nil))⟩
    rw [h2]
    exact rep_kD k
def enumD (ds : List D) : List D := (List.range ds.length).zipWith (fun (i : Nat) d => .tup [.int (i : Int), d]) ds
theorem enumD_get {ds : List D} {i : Nat} {z : D} (h : (enumD ds)[i]? = some z) : ∃ d, ds[i]? = some d ∧ z = .tup [.int (i : Int), d] := by
  unfold enumD at h
  rw [List.getElem?_zipWith] at h
  by_cases hi : i < ds.length
  · rw [List.getElem?_range hi, List.getElem?_eq_getElem hi] at h
    cases h
    exact ⟨_, List.getElem?_eq_getElem hi, rfl⟩
  · rw [List.getElem?_eq_none (l := List.range ds.length) (by simpa using hi)] at h
    cases h
theorem yields_enum {a : Addr} {vs : List V} {ds : List D} (h : SqL K B1 a vs) (r : Reps K B1 vs ds) : Yields K B1 (Ite K a) (enumD ds) := fun i B H e1 e2 => by
  have hq : SqL K H a vs := Evl.ex_l (e1.trans e2) h
  refine ⟨fun z hz => ?_, fun hl => ⟨vs, hq, by rw [r.length]; simpa [enumD] using hl⟩⟩
  obtain ⟨d, hd, rfl⟩ := enumD_get hz
  obtain ⟨v, hv, rv⟩ := r.get hd
  refine ⟨⟨vs, v, hq, hv⟩, fun x H' y => ?_⟩
  obtain ⟨T, x', rfl, hT, rfl, y⟩ := y
  have := y vs hq
  rw [hv] at this
  cases this
  have g := Gr.lay e2 (o := .tup [.int (i : Nat), v]) hT
  exact ⟨_, g, .tup (.inl (.inl upd_same)) (.cons (.int _) (.cons ((rv.mono e1).mono g.b) .nil))⟩
def zipD (ds es : List D) : List D := List.zipWith (fun a b => .tup [a, b]) ds es
theorem yields_zip {a b : Addr} {vs us : List V} {ds es : List D} (h : SqL K B1 a vs) (r : Reps K B1 vs ds) (h2 : SqL K B1 b us) (r2 : Reps K B1 us es) : Yields K B1 (Itz K a b) (zipD ds es) := fun i B H e1 e2 => by
  have hq : SqL K H a vs := Evl.ex_l (e1.trans e2) h
  have hq2 : SqL K H b us := Evl.ex_l (e1.trans e2) h2
  refine ⟨fun z hz => ?_, fun hl => ⟨vs, us, hq, hq2, by
    rw [r.length, r2.length]
    simp only [zipD, List.length_zipWith] at hl
    omega⟩⟩
  unfold zipD at hz
  rw [List.getElem?_zipWith] at hz
  cases q : ds[i]? with
  | none => rw [q] at hz; cases hz
  | some d =>
    cases q2 : es[i]? with
    | none => rw [q, q2] at hz; cases hz
    | some e =>
      rw [q, q2] at hz
      cases hz
      obtain ⟨v, hv, rv⟩ := r.get q
      obtain ⟨u, hu, ru⟩ := r2.get q2
      refine ⟨⟨vs, us, v, u, hq, hq2, hv, hu⟩, fun x H' y => ?_⟩
      obtain ⟨T, x', y', rfl, hT, rfl, y1, y2⟩ := y
      have z1 := y1 vs hq
      rw [hv] at z1
      cases z1
      have z2 := y2 us hq2
      rw [hu] at z2
      cases z2
      have g := Gr.lay e2 (o := .tup [v, u]) hT
      exact ⟨_, g, .tup (.inl (.inl upd_same)) (.cons ((rv.mono e1).mono g.b) (.cons ((ru.mono e1).mono g.b) .nil))⟩
end

/-! ### the sources -/
def itemsOf (w : W) (m : Mem) : Run (List D) := match w with
  | .dat (.lst ds) => ret ds m
  | .dat (.tup ds) => ret ds m
  | .dat (.str x) => ret (signsD x) m
  | _ => none
@[simp] theorem itemsOf_lst {ds : List D} {m : Mem} : itemsOf (.dat (.lst ds)) m = ret ds m := rfl
@[simp] theorem itemsOf_tup {ds : List D} {m : Mem} : itemsOf (.dat (.tup ds)) m = ret ds m := rfl
@[simp] theorem itemsOf_str {x : Str} {m : Mem} : itemsOf (.dat (.str x)) m = ret (signsD x) m := rfl
def iAny (me : EM) : IM := fun ρ m => bnd (me ρ m) itemsOf
theorem itemsOf_len {w : W} {m : Mem} : ∀ o m', itemsOf w m = some (o, m') → m.length ≤ m'.length := fun o m' q => by
  unfold itemsOf at q
  split at q <;> first | (cases q; exact Nat.le_refl _) | cases q
section
variable {X : Cx} {tg e : Expr} {me : EM}
theorem si_any (he : SE X e me) : SI X tg e (iAny me) := by
  refine ⟨fun ρ m o m' q => bnd_len q (he.len ρ m) fun w m1 q1 => itemsOf_len o m' q1, fun ρ m o m' q B al σ H R wd rs h pins s I => ?_⟩
  rcases bnd_cases q with ⟨w, m1, e1, q1⟩ | ⟨c, fs, e1, rfl⟩
  · unfold itemsOf at q1
    split at q1
    · next ds =>
      cases q1
      refine (pi_list pe_w).run pins s σ H R I (he.run _ _ _ _ e1 B al σ H _ wd rs fun B1 al1 v1 H1 ex1 g1 wd1 r1 => ?_)
      cases r1 with
      | lst hq rr => exact ⟨_, rfl, ⟨_, Evl.ex_l wd1.ext hq⟩, h B1 al1 _ H1 ex1 g1 wd1 (yields_list hq rr)⟩
    · next ds =>
      cases q1
      refine (pi_tup pe_w).run pins s σ H R I (he.run _ _ _ _ e1 B al σ H _ wd rs fun B1 al1 v1 H1 ex1 g1 wd1 r1 => ?_)
      cases r1 with
      | tup hq rr => exact ⟨_, rfl, ⟨_, Evl.ex_t wd1.ext hq⟩, h B1 al1 _ H1 ex1 g1 wd1 (yields_tup hq rr)⟩
    · next x =>
      cases q1
      refine (pi_str pe_w).run pins s σ H R I (he.run _ _ _ _ e1 B al σ H _ wd rs fun B1 al1 v1 H1 ex1 g1 wd1 r1 => ?_)
      cases r1 with
      | str _ => exact ⟨_, rfl, h B1 al1 _ H1 ex1 g1 wd1 yields_str⟩
    · cases q1
  · exact (pi_list pe_w).run pins s σ H R I (he.run _ _ _ _ e1 B al σ H _ wd rs h)
/-- range(n) -/
def iRange1 (me : EM) : IM := fun ρ m => bnd (me ρ m) fun w m1 => match w with
  | .dat (.int j) => if j < 1000000 ∧ -1000000 < j then ret (rangeD 0 j.toNat) m1 else none
  | _ => none
theorem range1_cases {w : W} {m1 m' : Mem} {o : Out (List D)} (q : (match w with
  | .dat (.int j) => if j < 1000000 ∧ -1000000 < j then (ret (rangeD 0 j.toNat) m1 : Run (List D)) else none
  | _ => none) = some (o, m')) : ∃ j : Int, w = .dat (.int j) ∧ (j < 1000000 ∧ -1000000 < j) ∧ o = .ok (rangeD 0 j.toNat) ∧ m' = m1 := by
  split at q
  · split at q
    · next h => cases q; exact ⟨_, rfl, h, rfl, rfl⟩
    · cases q
  · cases q
theorem si_range1 {p pos : Pos} (hg : Gl X "range") (hm : X.mg "range" = none) (he : SE X e me) (hs : noStar e = true := by rfl) : SI X tg (.Call (.Name "range" p) [e] [] pos) (iRange1 me) := by
  refine ⟨fun ρ m o m' q => bnd_len q (he.len ρ m) fun w m1 q1 => by
    obtain ⟨_, _, _, _, rfl⟩ := range1_cases q1
    exact Nat.le_refl _, fun ρ m o m' q B al σ H R wd rs h pins s I => (pi_range1 hg hm (pa_cons pe_w pa_nil (starEach_cons hs)) (starEach_cons hs)).run pins s σ H R I ?_⟩
  refine he.seq q wd rs h.res fun w m1 q1 l1 B1 al1 v1 H1 e1 g1 wd1 r1 => ?_
  obtain ⟨j, rfl, hj, rfl, rfl⟩ := range1_cases q1
  cases (r1 : Rep X.K B1 v1 (.int j))
  exact ⟨j, rfl, by omega, by omega, h B1 al1 _ H1 e1 g1 wd1 yields_range⟩
/-- range(a, b) -/
def iRange2 (ma mb : EM) : IM := fun ρ m => bnd (ma ρ m) fun w m1 => bnd (mb ρ m1) fun u m2 => match w, u with
  | .dat (.int i), .dat (.int j) => if (i < 1000000 ∧ -1000000 < i) ∧ (j < 1000000 ∧ -1000000 < j) then ret (rangeD i (j - i).toNat) m2 else none
  | _, _ => none
theorem range2_cases {w u : W} {m1 m' : Mem} {o : Out (List D)} (q : (match w, u with
  | .dat (.int i), .dat (.int j) => if (i < 1000000 ∧ -1000000 < i) ∧ (j < 1000000 ∧ -1000000 < j) then (ret (rangeD i (j - i).toNat) m1 : Run (List D)) else none
  | _, _ => none) = some (o, m')) : ∃ i j : Int, w = .dat (.int i) ∧ u = .dat (.int j) ∧ ((i < 1000000 ∧ -1000000 < i) ∧ (j < 1000000 ∧ -1000000 < j)) ∧ o = .ok (rangeD i (j - i).toNat) ∧ m' = m1 := by
  split at q
  · split at q
    · next h => cases q; exact ⟨_, _, rfl, rfl, h, rfl, rfl⟩
    · cases q
  · cases q
theorem si_range2 {e2 : Expr} {mb : EM} {p pos : Pos} (hg : Gl X "range") (hm : X.mg "range" = none) (he : SE X e me) (hb : SE X e2 mb) (hs : noStar e = true := by rfl) (hs2 : noStar e2 = true := by rfl) : SI X tg (.Call (.Name "range" p) [e, e2] [] pos) (iRange2 me mb) := by
  refine ⟨fun ρ m o m' q => bnd_len q (he.len ρ m) fun w m1 q1 => bnd_len q1 (hb.len ρ m1) fun u m2 q2 => by
    obtain ⟨_, _, _, _, _, _, rfl⟩ := range2_cases q2
    exact Nat.le_refl _, fun ρ m o m' q B al σ H R wd rs h pins s I => (pi_range2 hg hm (pa_cons pe_w (pa_cons pe_w pa_nil (starEach_cons hs2)) (starEach_cons hs)) (by rw [starEach_cons hs, starEach_cons hs2]; rfl) (starEach_cons hs2)).run pins s σ H R I ?_⟩
  refine he.seq q wd rs h.res fun w m1 q1 l1 B1 al1 v1 H1 e1 g1 wd1 r1 => ?_
  refine hb.seq q1 wd1 (rs.mono e1 g1 l1) (fun c fs z => (h.res c fs z).mono e1 g1 l1) fun u m2 q2 l2 B2 al2 v2 H2 e2 g2 wd2 r2 => ?_
  obtain ⟨i, j, rfl, rfl, hj, rfl, rfl⟩ := range2_cases q2
  cases (r1 : Rep X.K B1 v1 (.int i))
  cases (r2 : Rep X.K B2 v2 (.int j))
  exact ⟨i, j, rfl, by omega, h B2 al2 _ H2 (e1.trans e2) (g1.trans g2 l1) wd2 yields_range⟩
/-- enumerate(list) -/
def iEnumM (me : EM) : IM := fun ρ m => bnd (me ρ m) fun w m1 => match w with
  | .dat (.lst ds) => ret (enumD ds) m1
  | _ => none
theorem enum_cases {w : W} {m1 m' : Mem} {o : Out (List D)} (q : (match w with
  | .dat (.lst ds) => (ret (enumD ds) m1 : Run (List D))
  | _ => none) = some (o, m')) : ∃ ds, w = .dat (.lst ds) ∧ o = .ok (enumD ds) ∧ m' = m1 := by
  split at q
  · cases q; exact ⟨_, rfl, rfl, rfl⟩
  · cases q
theorem si_enum {elts : List Expr} {kk : Nat} {p pos tpos : Pos} (hg : Gl X "enumerate") (hm : X.mg "enumerate" = none) (he : SE X e me) (hs : noStar e = true := by rfl) : SI X (.Tuple elts kk tpos) (.Call (.Name "enumerate" p) [e] [] pos) (iEnumM me) := by
  refine ⟨fun ρ m o m' q => bnd_len q (he.len ρ m) fun w m1 q1 => by
    obtain ⟨_, _, _, rfl⟩ := enum_cases q1
    exact Nat.le_refl _, fun ρ m o m' q B al σ H R wd rs h pins s I => (pi_enum hg hm (pa_cons pe_w pa_nil (starEach_cons hs)) (starEach_cons hs)).run pins s σ H R I ?_⟩
  refine he.seq q wd rs h.res fun w m1 q1 l1 B1 al1 v1 H1 e1 g1 wd1 r1 => ?_
  obtain ⟨ds, rfl, rfl, rfl⟩ := enum_cases q1
  cases (r1 : Rep X.K B1 v1 (.lst ds)) with
  | lst hq rr => exact ⟨_, _, rfl, Evl.ex_l wd1.ext hq, h B1 al1 _ H1 e1 g1 wd1 (yields_enum hq rr)⟩
/-- zip(list, list) -/
def iZipM (ma mb : EM) : IM := fun ρ m => bnd (ma ρ m) fun w m1 => bnd (mb ρ m1) fun u m2 => match w, u with
  | .dat (.lst ds), .dat (.lst es) => ret (zipD ds es) m2
  | _, _ => none
theorem zip_cases {w u : W} {m1 m' : Mem} {o : Out (List D)} (q : (match w, u with
  | .dat (.lst ds), .dat (.lst es) => (ret (zipD ds es) m1 : Run (List D))
  | _, _ => none) = some (o, m')) : ∃ ds es, w = .dat (.lst ds) ∧ u = .dat (.lst es) ∧ o = .ok (zipD ds es) ∧ m' = m1 := by
  split at q
  · cases q; exact ⟨_, _, rfl, rfl, rfl, rfl⟩
  · cases q
theorem si_zip {e2 : Expr} {mb : EM} {elts : List Expr} {kk : Nat} {p pos tpos : Pos} (hg : Gl X "zip") (hm : X.mg "zip" = none) (he : SE X e me) (hb : SE X e2 mb) (hs : noStar e = true := by rfl) (hs2 : noStar e2 = true := by rfl) :
    SI X (.Tuple elts kk tpos) (.Call (.Name "zip" p) [e, e2] [] pos) (iZipM me mb) := by
  refine ⟨fun ρ m o m' q => bnd_len q (he.len ρ m) fun w m1 q1 => bnd_len q1 (hb.len ρ m1) fun u m2 q2 => by
    obtain ⟨_, _, _, _, _, rfl⟩ := zip_cases q2
    exact Nat.le_refl _, fun ρ m o m' q B al σ H R wd rs h pins s I => (pi_zip hg hm (pa_cons pe_w (pa_cons pe_w pa_nil (starEach_cons hs2)) (starEach_cons hs)) (starEach_cons hs) (star_any (es := [e2]) (by show (noStar e2 && true) = true; rw [hs2]; rfl))).run pins s σ H R I ?_⟩
  refine he.seq q wd rs h.res fun w m1 q1 l1 B1 al1 v1 H1 e1 g1 wd1 r1 => ?_
  refine hb.seq q1 wd1 (rs.mono e1 g1 l1) (fun c fs z => (h.res c fs z).mono e1 g1 l1) fun u m2 q2 l2 B2 al2 v2 H2 e2 g2 wd2 r2 => ?_
  obtain ⟨ds, es, rfl, rfl, rfl, rfl⟩ := zip_cases q2
  cases (r1.mono e2 g2 l2 : Rep X.K B2 v1 (.lst ds)) with
  | lst hq rr =>
    cases (r2 : Rep X.K B2 v2 (.lst es)) with
    | lst hq2 rr2 => exact ⟨_, _, _, _, rfl, Evl.ex_l wd2.ext hq, Evl.ex_l wd2.ext hq2, h B2 al2 _ H2 (e1.trans e2) (g1.trans g2 l1) wd2 (yields_zip hq rr hq2 rr2)⟩
end

/-! ### for -/
/-- the turns: each item to the target, then the body -/
def forL (mg : GM) (body : SM) : List D → Slots → Mem → SR
  | [], ρ, m => some (.nx ρ, m)
  | d :: r, ρ, m => match mg (.dat d) ρ m with
    | some (.nx ρ1, m1) => (match body ρ1 m1 with
      | some (.nx ρ2, m2) => forL mg body r ρ2 m2
      | some (.ct ρ2, m2) => forL mg body r ρ2 m2
      | some (.bk ρ2, m2) => some (.nx ρ2, m2)
      | some (.rt w, m2) => some (.rt w, m2)
      | some (.ex c fs ρ2, m2) => some (.ex c fs ρ2, m2)
      | none => none)
    | _ => none
def sFor (mi : IM) (mg : GM) (body : SM) : SM := fun ρ m => sbd (mi ρ m) ρ fun ds m1 => forL mg body ds ρ m1
section
variable {X : Cx} {tg : Expr} {mg : GM} {body : SM} {bs : List Stmt}
theorem forL_len (hg : SG X tg mg) (hb : SSs X bs body) : ∀ (ds : List D) (ρ : Slots) (m : Mem) (f : Fl) (m' : Mem), forL mg body ds ρ m = some (f, m') → m.length ≤ m'.length
  | [], ρ, m, f, m', q => by cases q; exact Nat.le_refl _
  | d :: r, ρ, m, f, m', q => by
    unfold forL at q
    split at q
    · next ρ1 m1 e1 =>
      have l1 := hg.len _ _ _ _ _ e1
      split at q
      · next ρ2 m2 e2 => exact Nat.le_trans l1 (Nat.le_trans (hb.len _ _ _ _ e2) (forL_len hg hb r _ _ _ _ q))
      · next ρ2 m2 e2 => exact Nat.le_trans l1 (Nat.le_trans (hb.len _ _ _ _ e2) (forL_len hg hb r _ _ _ _ q))
      · next ρ2 m2 e2 => cases q; exact Nat.le_trans l1 (hb.len _ _ _ _ e2)
      · next ρ2 m2 e2 => cases q; exact Nat.le_trans l1 (hb.len _ _ _ _ e2)
      · next ρ2 m2 e2 => cases q; exact Nat.le_trans l1 (hb.len _ _ _ _ e2)
      · cases q
    · cases q
/-- the word of the loop: from turn i on the rest is done as the mirror says -/
def ForW (X : Cx) (B0 : Hp) (al0 : Pl) (n0 : Nat) (mg : GM) (body : SM) (ds : List D) (D : Ends) (f : Fl) (m' : Mem) : Nat → Nat → L2.St → Hp → Prop := fun i k σ H =>
  k + i = ds.length ∧ ∃ B al m ρ, Ex B0 B ∧ Agr n0 al0 al ∧ n0 ≤ m.length ∧ Wd X.K B al m H ∧ RepS X.K B al m.length σ ρ ∧ forL mg body (ds.drop i) ρ m = some (f, m')
theorem ss_for {iter : Expr} {mi : IM} {pos : Pos} (hp : PassesOwn (model X.prog X.w) X.A X.env X.xe) (hc : X.calm = true) (hi : SI X tg iter mi) (hg : SG X tg mg) (hb : SSs X bs body) (hs : ∀ x, foldedSetIterable iter X.env x = pure x) :
    SS X (.For tg iter bs [] pos) (sFor mi mg body) := by
  refine ⟨fun ρ m f m' q => sbd_len q (hi.len ρ m) fun ds m1 q1 => forL_len hg hb ds ρ m1 f m' q1, fun ρ m f m' q B al σ H D wd rs h pins s I => (ps_for hp hc pi_w pg_w pss_w hs).run pins s σ H D I ?_⟩
  rcases sbd_cases q with ⟨ds, m1, e1, q1⟩ | ⟨c, fs, e1, rfl⟩
  · refine hi.run _ _ _ _ e1 B al σ H _ wd rs fun B1 al1 J H1 x1 g1 wd1 ys => ?_
    have l1 := hi.len _ _ _ _ e1
    refine ⟨ForW X B1 al1 m1.length mg body ds D f m', ⟨ds.length, by simp, B1, al1, m1, ρ, Ex.refl _, Agr.refl, Nat.le_refl _, wd1, rs.mono x1 g1 l1, q1⟩, ?_⟩
    rintro i k σ2 H2 ⟨hk, B2, al2, m2, ρ2, x2, g2, l2, wd2, rs2, q2⟩
    obtain ⟨yg, ye⟩ := ys i B2 H2 x2 wd2.ext
    cases hd : ds[i]? with
    | none =>
      have hl : ds.length ≤ i := List.getElem?_eq_none_iff.mp hd
      rw [List.drop_eq_nil_of_le hl] at q2
      cases q2
      exact .inl ⟨ye hl, h B2 al2 σ2 H2 (x1.trans x2) (g1.trans g2 l1) wd2 rs2⟩
    | some d =>
      have hi' : i < ds.length := (List.getElem?_eq_some_iff.mp hd).1
      have ed : ds.drop i = d :: ds.drop (i + 1) := by
        rw [List.drop_eq_getElem_cons hi']
        congr 1
        exact (List.getElem?_eq_some_iff.mp hd).2
      rw [ed] at q2
      obtain ⟨jg, jy⟩ := yg d hd
      refine .inr ⟨jg, fun σ' H' => ∃ k', k' < k ∧ ForW X B1 al1 m1.length mg body ds D f m' (i + 1) k' σ' H', fun σ' H' z => z, fun x H3 y => ?_⟩
      obtain ⟨B3, g3, r3⟩ := jy x H3 y
      have wd3 := wd2.grow g3
      unfold forL at q2
      split at q2
      · next ρ3 m3 e3 =>
        refine hg.run _ _ _ _ _ e3 B3 al2 σ2 H3 x _ wd3 (rs2.mono g3.b Agr.refl (Nat.le_refl _)) r3 fun B4 al4 σ4 H4 x4 g4 wd4 rs4 => ?_
        have l3 := hg.len _ _ _ _ _ e3
        have xx : Ex B1 B4 := (x2.trans g3.b).trans x4
        have gg : Agr m1.length al1 al4 := g2.trans g4 l2
        have ll : m1.length ≤ m3.length := Nat.le_trans l2 l3
        have next : ∀ {ρ5 : Slots} {m5 : Mem}, m3.length ≤ m5.length → forL mg body (ds.drop (i + 1)) ρ5 m5 = some (f, m') → AnsN X.K B4 al4 m3.length ρ5 m5 fun σ' H' => ∃ k', k' < k ∧ ForW X B1 al1 m1.length mg body ds D f m' (i + 1) k' σ' H' := fun {ρ5 m5} l5 q5 B5 al5 σ5 H5 x5 g5 wd5 rs5 =>
          ⟨ds.length - (i + 1), by omega, by omega, B5, al5, m5, ρ5, xx.trans x5, gg.trans g5 ll, Nat.le_trans ll l5, wd5, rs5, q5⟩
        split at q2
        · next ρ5 m5 e5 => exact hb.run _ _ _ _ e5 B4 al4 σ4 H4 _ wd4 rs4 (next (hb.len _ _ _ _ e5) q2)
        · next ρ5 m5 e5 => exact hb.run _ _ _ _ e5 B4 al4 σ4 H4 _ wd4 rs4 (next (hb.len _ _ _ _ e5) q2)
        · next ρ5 m5 e5 =>
          cases q2
          exact hb.run _ _ _ _ e5 B4 al4 σ4 H4 _ wd4 rs4 (AnsN.mono (x1.trans xx) (g1.trans gg l1) (Nat.le_trans l1 ll) h)
        · next w m5 e5 =>
          cases q2
          exact hb.run _ _ _ _ e5 B4 al4 σ4 H4 _ wd4 rs4 (AnsF.mono (D := D) (f := .rt w) (x1.trans xx) (g1.trans gg l1) (Nat.le_trans l1 ll) h)
        · next c fs ρ5 m5 e5 =>
          cases q2
          exact hb.run _ _ _ _ e5 B4 al4 σ4 H4 _ wd4 rs4 (SFlies.mono (x1.trans xx) (g1.trans gg l1) (Nat.le_trans l1 ll) h)
        · cases q2
      · cases q2
  · exact hi.run _ _ _ _ e1 B al σ H _ wd rs (SFlies.at h rs (hi.len _ _ _ _ e1))
end

/-! ### while -/
def whileL (mt : TM) (body : SM) : Nat → Slots → Mem → SR
  | 0, _, _ => none
  | k + 1, ρ, m => sbd (mt ρ m) ρ fun b m1 => match b with
    | false => some (.nx ρ, m1)
    | true => (match body ρ m1 with
      | some (.nx ρ2, m2) => whileL mt body k ρ2 m2
      | some (.ct ρ2, m2) => whileL mt body k ρ2 m2
      | some (.bk ρ2, m2) => some (.nx ρ2, m2)
      | some (.rt w, m2) => some (.rt w, m2)
      | some (.ex c fs ρ2, m2) => some (.ex c fs ρ2, m2)
      | none => none)
section
variable {X : Cx} {mt : TM} {body : SM} {c : Expr} {bs : List Stmt}
theorem whileL_len (ht : ST X c mt) (hb : SSs X bs body) : ∀ (k : Nat) (ρ : Slots) (m : Mem) (f : Fl) (m' : Mem), whileL mt body k ρ m = some (f, m') → m.length ≤ m'.length
  | 0, ρ, m, f, m', q => by cases q
  | k + 1, ρ, m, f, m', q => by
    unfold whileL at q
    refine sbd_len q (ht.len ρ m) fun b m1 q1 => ?_
    cases b with
    | false => cases q1; exact Nat.le_refl _
    | true =>
      dsimp only at q1
      split at q1
      · next ρ2 m2 e2 => exact Nat.le_trans (hb.len _ _ _ _ e2) (whileL_len ht hb k _ _ _ _ q1)
      · next ρ2 m2 e2 => exact Nat.le_trans (hb.len _ _ _ _ e2) (whileL_len ht hb k _ _ _ _ q1)
      · next ρ2 m2 e2 => cases q1; exact hb.len _ _ _ _ e2
      · next ρ2 m2 e2 => cases q1; exact hb.len _ _ _ _ e2
      · next ρ2 m2 e2 => cases q1; exact hb.len _ _ _ _ e2
      · cases q1
def WhileW (X : Cx) (B0 : Hp) (al0 : Pl) (n0 : Nat) (mt : TM) (body : SM) (f : Fl) (m' : Mem) : Nat → L2.St → Hp → Prop := fun k σ H =>
  ∃ B al m ρ, Ex B0 B ∧ Agr n0 al0 al ∧ n0 ≤ m.length ∧ Wd X.K B al m H ∧ RepS X.K B al m.length σ ρ ∧ whileL mt body k ρ m = some (f, m')
theorem ss_while (fuel : Nat) {pos : Pos} (hp : PassesOwn (model X.prog X.w) X.A X.env X.xe) (ht : ST X c mt) (hb : SSs X bs body) : SS X (.While c bs [] pos) (whileL mt body fuel) := by
  refine ⟨fun ρ m f m' q => whileL_len ht hb fuel ρ m f m' q, fun ρ m f m' q B al σ H D wd rs h pins s I => (ps_while hp pt_w pss_w).run pins s σ H D I ?_⟩
  refine ⟨WhileW X B al m.length mt body f m', ⟨fuel, B, al, m, ρ, Ex.refl _, Agr.refl, Nat.le_refl _, wd, rs, q⟩, ?_⟩
  rintro k σ2 H2 ⟨B2, al2, m2, ρ2, x2, g2, l2, wd2, rs2, q2⟩
  cases k with
  | zero => cases q2
  | succ k =>
    unfold whileL at q2
    refine ht.ssq (D := D) q2 wd2 rs2 (AnsF.mono x2 g2 l2 h) fun b m3 q3 l3 B3 al3 H3 x3 g3 wd3 => ?_
    cases b with
    | false =>
      rw [if_neg Bool.false_ne_true]
      cases q3
      exact h B3 al3 σ2 H3 (x2.trans x3) (g2.trans g3 l2) wd3 (rs2.mono x3 g3 l3)
    | true =>
      rw [if_pos rfl]
      dsimp only at q3
      refine ⟨fun σ' H' => ∃ k', k' < k + 1 ∧ WhileW X B al m.length mt body f m' k' σ' H', fun _ _ z => z, ?_⟩
      have rs3 := rs2.mono x3 g3 l3
      have xx := x2.trans x3
      have gg := g2.trans g3 l2
      have ll := Nat.le_trans l2 l3
      have next : ∀ {ρ5 : Slots} {m5 : Mem}, m3.length ≤ m5.length → whileL mt body k ρ5 m5 = some (f, m') → AnsN X.K B3 al3 m3.length ρ5 m5 fun σ' H' => ∃ k', k' < k + 1 ∧ WhileW X B al m.length mt body f m' k' σ' H' := fun {ρ5 m5} l5 q5 B5 al5 σ5 H5 x5 g5 wd5 rs5 =>
        ⟨k, Nat.lt_succ_self k, B5, al5, m5, ρ5, xx.trans x5, gg.trans g5 ll, Nat.le_trans ll l5, wd5, rs5, q5⟩
      split at q3
      · next ρ5 m5 e5 => exact hb.run _ _ _ _ e5 B3 al3 σ2 H3 _ wd3 rs3 (next (hb.len _ _ _ _ e5) q3)
      · next ρ5 m5 e5 => exact hb.run _ _ _ _ e5 B3 al3 σ2 H3 _ wd3 rs3 (next (hb.len _ _ _ _ e5) q3)
      · next ρ5 m5 e5 =>
        cases q3
        exact hb.run _ _ _ _ e5 B3 al3 σ2 H3 _ wd3 rs3 (AnsN.mono xx gg ll h)
      · next w m5 e5 =>
        cases q3
        exact hb.run _ _ _ _ e5 B3 al3 σ2 H3 _ wd3 rs3 (AnsF.mono (D := D) (f := .rt w) xx gg ll h)
      · next c fs ρ5 m5 e5 =>
        cases q3
        exact hb.run _ _ _ _ e5 B3 al3 σ2 H3 _ wd3 rs3 (SFlies.mono xx gg ll h)
      · cases q3
end
end Dm
/-! Dm, part 6: comprehensions; the rule for a def. -/
namespace Dm
open PySem PySem.Spec PyProof.Rows L2
open Evl (Ex)
variable [Lams]

/-! ### list comprehensions, one clause -/
/-- the own names forgotten -/
def wipeS (ρ : Slots) : List Nat → Slots
  | [] => ρ
  | v :: vs => (wipeS ρ vs).set v none
theorem repS_wipes {K : PySem.W.Frag} {B : Hp} {al : Pl} {n : Nat} {σ : L2.St} {ρ : Slots} (h : RepS K B al n σ ρ) : ∀ vs : List Nat, RepS K B al n (wipe σ vs) (wipeS ρ vs)
  | [] => h
  | v :: vs => RepS.wipe (repS_wipes h vs) v none
/-- how a comprehension's target takes an item: a name, or a tuple of names -/
inductive CT where
  | one (i : Nat) | tup (is : List Nat) | nst (i : Nat) (js : List Nat)
def CT.ok : CT → List Nat → Bool
  | .one i, vs => vs.contains i
  | .tup is, vs => is.all vs.contains
  | .nst i js, vs => vs.contains i && js.all vs.contains
def setAll : Slots → List Nat → List D → Option Slots
  | ρ, [], [] => some ρ
  | ρ, i :: is, d :: ds => setAll (ρ.set i (some (.dat d))) is ds
  | _, _, _ => none
def CT.take (t : CT) (d : D) (ρ : Slots) : Option Slots := match t with
  | .one i => some (ρ.set i (some (.dat d)))
  | .tup is => (match d with
    | .tup ds => setAll ρ is ds
    | _ => none)
  | .nst i js => (match d with
    | .tup [a, .tup bs] => setAll (ρ.set i (some (.dat a))) js bs
    | _ => none)
def CT.g (K : PySem.W.Frag) : CT → TG
  | .one i => gName i
  | .tup is => gTup K is.length (is.foldr (fun i t => gCons (gName i) t) gNil)
  | .nst i js => gTup K 2 (gCons (gName i) (gCons (gTup K js.length (js.foldr (fun i t => gCons (gName i) t) gNil)) gNil))
/-- the target's reading, in each context with these names -/
def CTok (X : Cx) (tg : Expr) (t : CT) : Prop := PG X tg (t.g X.K)
/-- the turns of a comprehension: what is made so far, in turn; the memory is cut behind each -/
def lcL (t : CT) (tt : TM) (te : EM) : List D → Slots → Mem → List D → Option (List D × Mem)
  | [], _, m, acc => some (acc, m)
  | d :: r, ρ, m, acc => match t.take d ρ with
    | none => none
    | some ρ1 => (match tt ρ1 m with
      | some (.ok false, m1) => lcL t tt te r ρ (m1.take m.length) acc
      | some (.ok true, m1) => (match te ρ1 m1 with
        | some (.ok (.dat y), m2) => lcL t tt te r ρ (m2.take m.length) (acc ++ [y])
        | _ => none)
      | _ => none)
def mLc (mi : IM) (t : CT) (tt : TM) (te : EM) (vs : List Nat) : EM := fun ρ m => bnd (mi ρ m) fun ds m1 => if ds.length < LIM then (match lcL t tt te ds (wipeS ρ vs) m1 [] with
  | some (ys, m2) => rd (.lst ys) m2
  | none => none) else none
def tYesM : TM := fun _ m => ret true m
theorem wipe_same {σ : L2.St} {vs : List Nat} {i : Nat} {x : Option V} (hi : vs.contains i = true) : wipe ((wipe σ vs).set i x) vs = wipe σ vs := by
  have h : i ∈ vs := by simpa using hi
  apply List.ext_getElem?
  intro j
  have key : ∀ (τ : L2.St) (ws : List Nat), (wipe τ ws)[j]? = if j ∈ ws ∧ j < τ.length then some none else τ[j]? := by
    intro τ ws
    induction ws with
    | nil => simp [wipe]
    | cons w ws ih =>
      unfold wipe
      by_cases e : w = j
      · subst e
        by_cases hl : w < τ.length
        · rw [List.getElem?_set_self (by rw [wipe_length]; exact hl), if_pos ⟨List.mem_cons_self, hl⟩]
        · rw [List.getElem?_eq_none (by rw [List.length_set, wipe_length]; omega), if_neg (fun z => hl z.2), List.getElem?_eq_none (by omega)]
      · rw [List.getElem?_set_ne e, ih]
        by_cases hm : j ∈ ws ∧ j < τ.length
        · rw [if_pos hm, if_pos ⟨List.mem_cons_of_mem _ hm.1, hm.2⟩]
        · rw [if_neg hm, if_neg]
          rintro ⟨z1, z2⟩
          rcases List.mem_cons.mp z1 with z | z
          · exact e z.symm
          · exact hm ⟨z, z2⟩
  rw [key, key, List.length_set, wipe_length]
  by_cases hj : j ∈ vs ∧ j < σ.length
  · rw [if_pos hj, if_pos hj]
  · rw [if_neg hj, if_neg hj]
    by_cases e : i = j
    · subst e
      have hl : ¬ i < σ.length := fun z => hj ⟨h, z⟩
      rw [List.getElem?_eq_none (by rw [List.length_set, wipe_length]; omega), List.getElem?_eq_none (by omega)]
    · rw [List.getElem?_set_ne e, key, if_neg hj]
theorem wipe_sets {σ : L2.St} {vs : List Nat} : ∀ {is : List Nat} {xs : List V} {τ : L2.St}, is.all vs.contains = true → is.length = xs.length → wipe τ vs = wipe σ vs → wipe ((is.zip xs).foldl (fun s p => s.set p.1 (some p.2)) τ) vs = wipe σ vs
  | [], _, _, _, _, h => h
  | i :: is, [], _, _, hl, _ => by simp at hl
  | i :: is, x :: xs, τ, ha, hl, h => by
    have ha' : vs.contains i = true ∧ is.all vs.contains = true := by simpa using ha
    refine wipe_sets (is := is) (xs := xs) (τ := τ.set i (some x)) ha'.2 (by simpa using hl) ?_
    rw [← h]
    have hi : i ∈ vs := by simpa using ha'.1
    apply List.ext_getElem?
    intro j
    have key : ∀ (τ : L2.St) (ws : List Nat), (wipe τ ws)[j]? = if j ∈ ws ∧ j < τ.length then some none else τ[j]? := by
      intro τ ws
      induction ws with
      | nil => simp [wipe]
      | cons w ws ih =>
        unfold wipe
        by_cases e : w = j
        · subst e
          by_cases hl : w < τ.length
          · rw [List.getElem?_set_self (by rw [wipe_length]; exact hl), if_pos ⟨List.mem_cons_self, hl⟩]
          · rw [List.getElem?_eq_none (by rw [List.length_set, wipe_length]; omega), if_neg (fun z => hl z.2), List.getElem?_eq_none (by omega)]
        · rw [List.getElem?_set_ne e, ih]
          by_cases hm : j ∈ ws ∧ j < τ.length
          · rw [if_pos hm, if_pos ⟨List.mem_cons_of_mem _ hm.1, hm.2⟩]
          · rw [if_neg hm, if_neg]
            rintro ⟨z1, z2⟩
            rcases List.mem_cons.mp z1 with z | z
            · exact e z.symm
            · exact hm ⟨z, z2⟩
    rw [key, key, List.length_set]
    by_cases hj : j ∈ vs ∧ j < τ.length
    · rw [if_pos hj, if_pos hj]
    · rw [if_neg hj, if_neg hj]
      by_cases e : i = j
      · subst e
        have hl : ¬ i < τ.length := fun z => hj ⟨hi, z⟩
        rw [List.getElem?_eq_none (by rw [List.length_set]; omega), List.getElem?_eq_none (by omega)]
      · rw [List.getElem?_set_ne e]
/-- a tuple's names are set one by one -/
theorem gTups_run {K : PySem.W.Frag} : ∀ {is : List Nat} {xs : List V} {σ : L2.St} {H : Hp} {Q : L2.St → Hp → Prop}, is.length = xs.length → Q ((is.zip xs).foldl (fun s p => s.set p.1 (some p.2)) σ) H → (is.foldr (fun i t => gCons (gName i) t) gNil) xs σ H Q
  | [], [], _, _, _, _, q => ⟨rfl, q⟩
  | i :: is, x :: xs, σ, H, Q, hl, q => ⟨x, xs, rfl, gTups_run (K := K) (is := is) (xs := xs) (by simpa using hl) q⟩
  | [], _ :: _, _, _, _, hl, _ => by simp at hl
  | _ :: _, [], _, _, _, hl, _ => by simp at hl
theorem setAll_rep {K : PySem.W.Frag} {B : Hp} {al : Pl} {n : Nat} : ∀ {is : List Nat} {vs : List V} {ds : List D} {σ : L2.St} {ρ ρ1 : Slots}, setAll ρ is ds = some ρ1 → Reps K B vs ds → RepS K B al n σ ρ → is.length = vs.length ∧ RepS K B al n ((is.zip vs).foldl (fun s p => s.set p.1 (some p.2)) σ) ρ1
  | [], _, [], _, _, _, e, .nil, rs => by cases e; exact ⟨rfl, rs⟩
  | [], _, _ :: _, _, _, _, e, _, _ => by cases e
  | _ :: _, _, [], _, _, _, e, _, _ => by cases e
  | i :: is, _, d :: ds, σ, ρ, ρ1, e, .cons r rr, rs => by
    obtain ⟨h1, h2⟩ := setAll_rep (is := is) (ds := ds) (ρ := ρ.set i (some (.dat d))) e rr (rs.set (w := .dat d) r)
    exact ⟨congrArg (· + 1) h1, h2⟩
theorem ctTup {is : List Nat} {d : D} {ρ ρ1 : Slots} (e : (CT.tup is).take d ρ = some ρ1) : ∃ ds, d = .tup ds ∧ setAll ρ is ds = some ρ1 := by
  cases d with
  | tup ds => exact ⟨ds, rfl, e⟩
  | _ => cases e
theorem ctNst {i : Nat} {js : List Nat} {d : D} {ρ ρ1 : Slots} (e : (CT.nst i js).take d ρ = some ρ1) : ∃ a bs, d = .tup [a, .tup bs] ∧ setAll (ρ.set i (some (.dat a))) js bs = some ρ1 := by
  unfold CT.take at e
  split at e
  · next h => cases h
  · next h => cases h
  · next h =>
    cases h
    split at e
    · exact ⟨_, _, rfl, e⟩
    · cases e
/-- an object that nobody here touches -/
def Pl.hide (al : Pl) (p : Addr) (o : HO) : Pl := ⟨al.at_, fun a => if a = p then some o else al.fr a⟩
theorem hide_here {al : Pl} {p : Addr} {o : HO} : (al.hide p o).fr p = some o := by show (if p = p then some o else al.fr p) = _; exact if_pos rfl
theorem hide_ne {al : Pl} {p a : Addr} {o : HO} (h : a ≠ p) : (al.hide p o).fr a = al.fr a := by show (if a = p then some o else al.fr a) = _; exact if_neg h
theorem Wd.hide {K : PySem.W.Frag} {B H : Hp} {al : Pl} {m : Mem} {p : Addr} {o : HO} (wd : Wd K B al m H) (hp : H p = some o) (hb : B p = none) (nc : ∀ j c, m[j]? = some c → c.isDead = false → al j ≠ p) (ht : ∀ ps, o ≠ .tbl ps := by intro _ z; cases z) : Wd K B (al.hide p o) m H := by
  refine ⟨wd.ext, wd.cell, wd.inj, fun a u e => ?_, fun a ha => ?_, fun k c e hd => ?_, wd.lk, fun q hq => (wd.tb q hq).mono (Ex.refl _) (fun _ _ e _ => e) (fun _ _ _ e => e) fun a ps e hf => by
    have z : a ≠ p := fun z => by rw [z, hp] at e; cases e; exact ht _ rfl
    rw [hide_ne z]; exact hf⟩
  · by_cases z : a = p
    · subst z; rw [hide_here] at e; cases e; exact hp
    · rw [hide_ne z] at e; exact wd.fx a u e
  · by_cases z : a = p
    · rw [z]; exact hb
    · rw [hide_ne z] at ha; exact wd.fb a ha
  · show (al.hide p o).fr (al k) = none
    rw [hide_ne (nc k c e hd)]; exact wd.fc k c e hd
/-- its owner writes it, and it is as before for the others -/
theorem Wd.unhide {K : PySem.W.Frag} {B H : Hp} {al al' : Pl} {m : Mem} {p : Addr} {o o' : HO} (wd : Wd K B al' m H) (hf : al'.fr = (al.hide p o).fr) (hn : al.fr p = none) : Wd K B ⟨al'.at_, al.fr⟩ m (upd H p o') ∧ B p = none ∧ H p = some o ∧ ∀ j c, m[j]? = some c → c.isDead = false → al' j ≠ p := by
  have h1 : al'.fr p = some o := by rw [hf]; exact hide_here
  have hb : B p = none := wd.fb p (by rw [h1]; simp)
  have nc : ∀ j c, m[j]? = some c → c.isDead = false → al' j ≠ p := fun j c e hd z => by
    have := wd.fc j c e hd
    rw [z, h1] at this; cases this
  have old : ∀ a u, al.fr a = some u → a ≠ p ∧ al'.fr a = some u := fun a u e => by
    have z : a ≠ p := fun z => by rw [z, hn] at e; cases e
    exact ⟨z, by rw [hf, hide_ne z]; exact e⟩
  refine ⟨⟨fun a u e => ?_, fun k c e hd => ?_, wd.inj, fun a u e => ?_, fun a ha => ?_, fun k c e hd => ?_, wd.lk, fun q hq => ?_⟩, hb, wd.fx p o h1, nc⟩
  · have z : a ≠ p := fun z => by rw [z, hb] at e; cases e
    rw [upd_ne z]; exact wd.ext a u e
  · obtain ⟨c1, c2⟩ := wd.cell k c e hd
    have z := nc k c e hd
    refine ⟨c1, ?_⟩
    exact RepC.agr (al := al') (fun _ _ => rfl) (c2.at_ (upd_ne z))
  · obtain ⟨z, e2⟩ := old a u e
    rw [upd_ne z]; exact wd.fx a u e2
  · cases q : al.fr a with
    | none => exact absurd q ha
    | some u => exact wd.fb a (by rw [(old a u q).2]; simp)
  · cases q : al.fr (al' k) with
    | none => rfl
    | some u =>
      have := wd.fc k c e hd
      rw [(old _ u q).2] at this; cases this
  · obtain ⟨ps, t1, t2, t3, t4, t5⟩ := wd.tb q hq
    have z : tabA K q.1 ≠ p := fun z => by rw [z, h1] at t5; cases t5
    exact ⟨ps, by rw [upd_ne z]; exact t1, t2, t3, t4, by rw [← hide_ne (al := al) (o := o) z, ← hf]; exact t5⟩
/-- what was owned is frozen -/
theorem Wd.freezeAs {K : PySem.W.Frag} {B H : Hp} {al : Pl} {m : Mem} {p : Addr} {o o' : HO} (wd : Wd K B al m H) (hp : H p = some o) (hb : B p = none) (hf : al.fr p = none) (nc : ∀ j c, m[j]? = some c → c.isDead = false → al j ≠ p) (hu : undict o' = true := by rfl) (ht : ∀ ps, o ≠ .tbl ps := by intro _ z; cases z) : Wd K (upd B p o') al m (upd H p o') ∧ Ex B (upd B p o') := by
  have ex : Ex B (upd B p o') := Ex.new hb
  refine ⟨⟨fun a u z => ?_, fun j c e hd => ?_, wd.inj, fun a u z => ?_, fun a ha => ?_, wd.fc, fun a u z => ?_, fun q hq => ?_⟩, ex⟩
  · by_cases w : a = p
    · subst w; rw [upd_same] at z ⊢; exact z
    · rw [upd_ne w] at z ⊢; exact wd.ext a u z
  · obtain ⟨h1, h2⟩ := wd.cell j c e hd
    have w := nc j c e hd
    exact ⟨by rw [upd_ne w]; exact h1, (h2.at_ (upd_ne w)).monoB ex⟩
  · have w : a ≠ p := fun w => by rw [w, hf] at z; cases z
    rw [upd_ne w]; exact wd.fx a u z
  · have z : a ≠ p := fun z => by rw [z, hf] at ha; exact ha rfl
    rw [upd_ne z]; exact wd.fb a ha
  · by_cases w : a = p
    · subst w; rw [upd_same] at z; cases z; exact hu
    · rw [upd_ne w] at z; exact wd.lk a u z
  · refine (wd.tb q hq).mono ex (fun a ps e hb => ?_) (fun a ps e hb => ?_) fun _ _ _ e => e
    · have w : a ≠ p := fun w => by rw [w, hp] at e; cases e; exact ht _ rfl
      rw [upd_ne w]; exact e
    · have w : a ≠ p := fun w => by rw [w, hp] at e; cases e; exact ht _ rfl
      rw [upd_ne w]; exact hb
theorem upd_self {H : Hp} {p : Addr} {o : HO} (hp : H p = some o) : upd H p o = H := by
  funext a
  by_cases w : a = p
  · subst w; rw [upd_same, hp]
  · rw [upd_ne w]
theorem Wd.freeze {K : PySem.W.Frag} {B H : Hp} {al : Pl} {m : Mem} {p : Addr} {o : HO} (wd : Wd K B al m H) (hp : H p = some o) (hb : B p = none) (hf : al.fr p = none) (nc : ∀ j c, m[j]? = some c → c.isDead = false → al j ≠ p) (hu : undict o = true := by rfl) (ht : ∀ ps, o ≠ .tbl ps := by intro _ z; cases z) : Wd K (upd B p o) al m H ∧ Ex B (upd B p o) := by
  have z := wd.freezeAs (o' := o) hp hb hf nc hu ht
  rwa [upd_self hp] at z
/-- a new dict is locked before it is handed on -/
theorem wE.lock {X : Cx} {e : Expr} {σ : L2.St} {H : Hp} {Q : VK} (h : wE X e σ H fun v H' => Q v H' ∨ ∃ a u, v = .ref a ∧ H' a = some u ∧ L2.Mut (some u) ∧ ∀ od, Q v (upd H' a (.frz od u))) : wE X e σ H Q := fun pins s I =>
  thn (h pins s I) fun u s1 ⟨v, H1, I1, rv, q⟩ => by
    rcases q with q | ⟨a, w, ev, ha, mu, q⟩
    · exact ⟨v, H1, I1, rv, q⟩
    · obtain ⟨od, I2⟩ := I1.lock ha mu
      exact ⟨v, _, I2, rv, q od⟩
/-- the target takes the item -/
theorem ct_run {K : PySem.W.Frag} {B H : Hp} {al : Pl} {n : Nat} {t : CT} {vs : List Nat} {d : D} {σ : L2.St} {ρ ρ1 : Slots} {x : V} {Q : L2.St → Hp → Prop} (ho : t.ok vs = true) (e : t.take d ρ = some ρ1) (eb : Ex B H) (r : Rep K B x d) (rs : RepS K B al n (wipe σ vs) ρ)
    (q : ∀ σ2, RepS K B al n σ2 ρ1 → wipe σ2 vs = wipe σ vs → Q σ2 H) : t.g K x (wipe σ vs) H Q := by
  cases t with
  | one i =>
    cases e
    exact q _ (rs.set (w := .dat d) r) (wipe_same ho)
  | tup is =>
    obtain ⟨ds, rfl, e'⟩ := ctTup e
    · cases r with
      | tup hq rr =>
        obtain ⟨hl, r2⟩ := setAll_rep e' rr rs
        refine ⟨_, _, rfl, Evl.ex_t eb hq, hl.symm, gTups_run (K := K) hl (q _ r2 (wipe_sets ho hl ?_))⟩
        have key : ∀ (σ : L2.St) (ws us : List Nat), (∀ w ∈ ws, w ∈ us) → wipe (wipe σ us) ws = wipe σ us := by
          intro σ ws us
          induction ws with
          | nil => intro _; rfl
          | cons w ws ih =>
            intro hm
            show (wipe (wipe σ us) ws).set w none = _
            rw [ih fun z hz => hm z (List.mem_cons_of_mem _ hz)]
            have hw := hm w List.mem_cons_self
            clear ih hm
            induction us with
            | nil => cases hw
            | cons u us ih =>
              show ((wipe σ us).set u none).set w none = (wipe σ us).set u none
              by_cases e : u = w
              · subst e; rw [List.set_set]
              · rcases List.mem_cons.mp hw with z | z
                · exact absurd z.symm e
                · rw [List.set_comm _ _ e, ih z]
        exact key σ vs vs fun _ h => h
  | nst i js =>
    obtain ⟨a, bs, rfl, e'⟩ := ctNst e
    obtain ⟨h1, h2⟩ := Bool.and_eq_true_iff.mp (show (vs.contains i && js.all vs.contains) = true from ho)
    cases r with
    | tup hq rr =>
      cases rr with
      | cons ra rr =>
        cases rr with
        | cons rb rr =>
          cases rr
          cases rb with
          | tup hq2 rr2 =>
            obtain ⟨hl, r2⟩ := setAll_rep e' rr2 (rs.set (w := .dat a) ra)
            exact ⟨_, _, rfl, Evl.ex_t eb hq, rfl, _, _, rfl, _, _, rfl, _, _, rfl, Evl.ex_t eb hq2, hl.symm, gTups_run (K := K) hl ⟨rfl, q _ r2 (wipe_sets h2 hl (wipe_same h1))⟩⟩
section
variable {X : Cx} {tg iter elt : Expr} {mi : IM} {t : CT} {tt : TM} {te : EM} {ifs : List Expr}
/-- a clause's tests -/
def wTs (X : Cx) (ifs : List Expr) : TT := fun σ H Q => ∀ (pins : List (Addr × Obj)) (s : Shared), Inv X pins σ H s →
  wpAny (model X.prog X.w) X.A (forIn ifs true fun c r => if r = true then do let ok ← isTrue c X.env (eval c X.env); pure (ForInStep.yield ok) else pure (ForInStep.yield r)) (TP X pins σ Q) X.xe s
structure STs (X : Cx) (ifs : List Expr) (mm : TM) : Prop where
  len : ∀ ρ m o m', mm ρ m = some (o, m') → m.length ≤ m'.length
  run : ∀ ρ m o m', mm ρ m = some (o, m') → ∀ B al σ H Q, Wd X.K B al m H → RepS X.K B al m.length σ ρ → AnsT X B al m.length σ Q m' o → wTs X ifs σ H Q
theorem sts_nil : STs X [] tYesM := ⟨fun ρ m o m' q => by cases q; exact Nat.le_refl _, fun ρ m o m' q B al σ H Q wd rs h pins s I => by
  cases q
  exact pts_nil.run pins s σ H Q I (h B al H (Ex.refl B) Agr.refl wd)⟩
theorem sts_one {c : Expr} {mm : TM} (h : ST X c mm) : STs X [c] mm := ⟨h.len, fun ρ m o m' q B al σ H Q wd rs ha pins s I => (pts_one pt_w).run pins s σ H Q I (h.run _ _ _ _ q B al σ H Q wd rs ha)⟩
theorem lcL_len (ht : ∀ ρ m o m', tt ρ m = some (o, m') → m.length ≤ m'.length) (he : ∀ ρ m o m', te ρ m = some (o, m') → m.length ≤ m'.length) : ∀ (ds : List D) (ρ : Slots) (m : Mem) (acc ys : List D) (m' : Mem), lcL t tt te ds ρ m acc = some (ys, m') → m'.length = m.length
  | [], ρ, m, acc, ys, m', q => by cases q; rfl
  | d :: r, ρ, m, acc, ys, m', q => by
    unfold lcL at q
    split at q
    · cases q
    · next ρ1 e =>
      split at q
      · next m1 e1 =>
        have l1 := ht _ _ _ _ e1
        rw [lcL_len ht he r _ _ _ _ _ q, List.length_take]; omega
      · next m1 e1 =>
        have l1 := ht _ _ _ _ e1
        split at q
        · next y m2 e2 =>
          have l2 := he _ _ _ _ e2
          rw [lcL_len ht he r _ _ _ _ _ q, List.length_take]; omega
        · cases q
      · cases q
theorem mLc_cases {vs : List Nat} {ds : List D} {ρ : Slots} {m1 m' : Mem} {o : Out W} (q : (if ds.length < LIM then (match lcL t tt te ds (wipeS ρ vs) m1 [] with
  | some (ys, m2) => rd (.lst ys) m2
  | none => none) else none) = some (o, m')) : ds.length < LIM ∧ ∃ ys, lcL t tt te ds (wipeS ρ vs) m1 [] = some (ys, m') ∧ o = .ok (.dat (.lst ys)) := by
  split at q
  · next hl =>
    split at q
    · next ys m2 e => cases q; exact ⟨hl, ys, e, rfl⟩
    · cases q
  · cases q
/-- the length of what is made so far -/
theorem lcL_acc : ∀ (ds : List D) (ρ : Slots) (m : Mem) (acc ys : List D) (m' : Mem), lcL t tt te ds ρ m acc = some (ys, m') → acc.length ≤ ys.length ∧ ys.length ≤ acc.length + ds.length
  | [], ρ, m, acc, ys, m', q => by cases q; exact ⟨Nat.le_refl _, Nat.le_refl _⟩
  | d :: r, ρ, m, acc, ys, m', q => by
    unfold lcL at q
    split at q
    · cases q
    · split at q
      · obtain ⟨h1, h2⟩ := lcL_acc r _ _ _ _ _ q
        exact ⟨h1, by rw [List.length_cons]; omega⟩
      · split at q
        · obtain ⟨h1, h2⟩ := lcL_acc r _ _ _ _ _ q
          rw [List.length_append, List.length_singleton] at h1 h2
          exact ⟨by omega, by rw [List.length_cons]; omega⟩
        · cases q
      · cases q
/-- the word: the list at Dl holds what is made so far, and the rest is made as the mirror says -/
def LcW (X : Cx) (B0 : Hp) (al0 : Pl) (n0 : Nat) (σ : L2.St) (t : CT) (tt : TM) (te : EM) (ds : List D) (ρ : Slots) (vs : List Nat) (Dl : Addr) (ys : List D) (m' : Mem) : Nat → Nat → Hp → Prop := fun i k H =>
  k + i = ds.length ∧ ∃ B al m acc us, Ex B0 B ∧ Agr n0 al0 al ∧ m.length = n0 ∧ Wd X.K B al m H ∧ B Dl = none ∧ (∀ j c, m[j]? = some c → c.isDead = false → al j ≠ Dl) ∧ H Dl = some (.lst us) ∧ Reps X.K B us acc ∧ acc.length ≤ i ∧ RepS X.K B al n0 (wipe σ vs) (wipeS ρ vs) ∧ lcL t tt te (ds.drop i) (wipeS ρ vs) m acc = some (ys, m')
/-- what a comprehension reads -/
theorem lc_run {vs : List Nat} (ho : t.ok vs = true) (hi : SI X tg iter mi) {ρ : Slots} {m m' : Mem} {o : Out W} (q : mLc mi t tt te vs ρ m = some (o, m')) {B : Hp} {al : Pl} {σ : L2.St} {H : Hp} {Q : VK} (wd : Wd X.K B al m H) (rs : RepS X.K B al m.length σ ρ) (h : AnsE X B al m.length σ Q m' o)
    {tu : TT} {tv : TE} (htu : ∀ (ρ1 : Slots) (m1 : Mem) (b : Bool) (m2 : Mem), tt ρ1 m1 = some (.ok b, m2) → ∀ B al σ H Q, Wd X.K B al m1 H → RepS X.K B al m1.length σ ρ1 → (∀ B' al' H', Ex B B' → Agr m1.length al al' → Wd X.K B' al' m2 H' → Q b H') → tu σ H Q)
    (htv : ∀ (ρ1 : Slots) (m1 : Mem) (w : W) (m2 : Mem), te ρ1 m1 = some (.ok w, m2) → ∀ B al σ H Q, Wd X.K B al m1 H → RepS X.K B al m1.length σ ρ1 → AnsW X.K B al m1.length w m2 Q → tv σ H Q)
    (ltt : ∀ ρ m o m', tt ρ m = some (o, m') → m.length ≤ m'.length) (lte : ∀ ρ m o m', te ρ m = some (o, m') → m.length ≤ m'.length) : tLc (wI X tg iter) (t.g X.K) tu tv vs σ H Q := by
  rcases bnd_cases q with ⟨ds, m1, e1, q1⟩ | ⟨c, fs, e1, rfl⟩
  · refine hi.run _ _ _ _ e1 B al σ H _ wd rs fun B1 al1 J H1 x1 g1 wd1 ys => ?_
    have l1 := hi.len _ _ _ _ e1
    obtain ⟨hlim, zs, qz, rfl⟩ := mLc_cases q1
    intro Dl hD
    have gl := Gr.by wd1.ext (o := .lst []) hD
    have wdl := wd1.grow gl
    have hB1 : B1 Dl = none := by
      cases z : B1 Dl with
      | none => rfl
      | some u => rw [wd1.ext _ u z] at hD; cases hD
    have hF1 : al1.fr Dl = none := by
      cases z : al1.fr Dl with
      | none => rfl
      | some u => rw [wd1.fx _ u z] at hD; cases hD
    refine ⟨LcW X B1 al1 m1.length σ t tt te ds ρ vs Dl zs m', ⟨ds.length, by simp, B1, al1, m1, [], [], Ex.refl _, Agr.refl, rfl, wdl, hB1, fun j c e hd => wd1.notNew hD e hd, upd_same, .nil, Nat.zero_le _, repS_wipes (rs.mono x1 g1 l1) vs, qz⟩, ?_⟩
    rintro i k H2 ⟨hk, B2, al2, m2, acc, us, x2, g2, l2, wd2, b2, nh2, hl2, ra, la, rs2, q2⟩
    have hF2 : al2.fr Dl = none := by rw [g2.fr]; exact hF1
    obtain ⟨yg, ye⟩ := ys i B2 H2 x2 wd2.ext
    cases hd : ds[i]? with
    | none =>
      have hl : ds.length ≤ i := List.getElem?_eq_none_iff.mp hd
      rw [List.drop_eq_nil_of_le hl] at q2
      cases q2
      refine .inl ⟨ye hl, ?_⟩
      obtain ⟨wd3, exB⟩ := wd2.freeze hl2 b2 hF2 nh2
      exact h _ al2 _ H2 ((x1.trans x2).trans exB) (g1.trans g2 l1) wd3 (.lst (.inl (.inl upd_same)) (ra.mono exB))
    | some d =>
      have hi' : i < ds.length := (List.getElem?_eq_some_iff.mp hd).1
      have ed : ds.drop i = d :: ds.drop (i + 1) := by
        rw [List.drop_eq_getElem_cons hi']
        congr 1
        exact (List.getElem?_eq_some_iff.mp hd).2
      rw [ed] at q2
      obtain ⟨jg, jy⟩ := yg d hd
      refine .inr ⟨jg, fun H' => ∃ k', k' < k ∧ LcW X B1 al1 m1.length σ t tt te ds ρ vs Dl zs m' (i + 1) k' H', fun H' z => z, fun x H3 y => ?_⟩
      obtain ⟨B3, g3, r3⟩ := jy x H3 y
      have wd3 := wd2.grow g3
      have hl3 : H3 Dl = some (.lst us) := g3.h _ _ hl2
      have b3 : B3 Dl = none := g3.new Dl (by rw [hl2]; simp) b2
      have rs3 := rs2.mono g3.b Agr.refl (Nat.le_refl _)
      have wdh := wd3.hide hl3 b3 nh2
      unfold lcL at q2
      split at q2
      · cases q2
      · next ρ1 eT =>
        refine ct_run ho eT wd3.ext r3 rs3 fun σ4 rs4 hw => ⟨hw, ?_⟩
        have rs4' : RepS X.K B3 (al2.hide Dl (.lst us)) m2.length σ4 ρ1 := by rw [l2]; exact rs4
        split at q2
        · next m4 e4 =>
          refine htu ρ1 m2 false m4 e4 B3 _ σ4 H3 _ wdh rs4' fun B4 al4 H4 x4 g4 wd4 => ?_
          rw [if_neg Bool.false_ne_true]
          obtain ⟨w5, b5, h5, n5⟩ := wd4.unhide (o' := .lst us) g4.fr hF2
          have same : upd H4 Dl (.lst us) = H4 := by
            funext a
            by_cases z : a = Dl
            · subst z; rw [upd_same]; exact h5.symm
            · rw [upd_ne z]
          rw [same] at w5
          have xx := (x2.trans g3.b).trans x4
          have l4 := ltt _ _ _ _ e4
          have gg : Agr m1.length al1 ⟨al4.at_, al2.fr⟩ := ⟨fun j hj => (g4.at_ j (by omega)).trans (g2.at_ j hj), g2.fr⟩
          refine ⟨ds.length - (i + 1), by omega, by omega, B4, ⟨al4.at_, al2.fr⟩, _, acc, us, xx, gg, by rw [List.length_take]; omega, w5.take _, b5, fun j c e hd => n5 j c (by rw [List.getElem?_take] at e; split at e; exact e; cases e) hd, h5, ra.mono (g3.b.trans x4), by omega, ?_, q2⟩
          exact RepS.mono (al := al2) (al' := ⟨al4.at_, al2.fr⟩) x4 ⟨fun j hj => g4.at_ j (by omega), rfl⟩ (Nat.le_refl _) rs3
        · next m4 e4 =>
          split at q2
          · next y m5 e5 =>
            refine htu ρ1 m2 true m4 e4 B3 _ σ4 H3 _ wdh rs4' fun B4 al4 H4 x4 g4 wd4 => ?_
            rw [if_pos rfl]
            have l4 := ltt _ _ _ _ e4
            refine htv ρ1 m4 (.dat y) m5 e5 B4 al4 σ4 H4 _ wd4 (rs4'.mono x4 g4 l4) fun B5 al5 v5 H5 x5 g5 wd5 r5 => ?_
            have l5 := lte _ _ _ _ e5
            have ff : al5.fr = (al2.hide Dl (.lst us)).fr := g5.fr.trans g4.fr
            obtain ⟨w6, b6, h6, n6⟩ := wd5.unhide (o' := .lst (us ++ [v5])) ff hF2
            have xx := ((x2.trans g3.b).trans x4).trans x5
            have gg : Agr m1.length al1 ⟨al5.at_, al2.fr⟩ := ⟨fun j hj => (g5.at_ j (by omega)).trans ((g4.at_ j (by omega)).trans (g2.at_ j hj)), g2.fr⟩
            have hlen : us.length < sizeLine := by
              rw [ra.length]
              exact lim_lt (by omega)
            refine ⟨us, h6, hlen, ds.length - (i + 1), by omega, by omega, B5, ⟨al5.at_, al2.fr⟩, _, acc ++ [y], us ++ [v5], xx, gg, by rw [List.length_take]; omega, w6.take _, b6, fun j c e hd => n6 j c (by rw [List.getElem?_take] at e; split at e; exact e; cases e) hd, upd_same, ?_, by rw [List.length_append, List.length_singleton]; omega, ?_, q2⟩
            · exact (ra.mono ((g3.b.trans x4).trans x5)).append (.cons r5 .nil)
            · exact RepS.mono (al := al2) (al' := ⟨al5.at_, al2.fr⟩) (x4.trans x5) ⟨fun j hj => (g5.at_ j (by omega)).trans (g4.at_ j (by omega)), rfl⟩ (Nat.le_refl _) rs3
          · cases q2
        · cases q2
  · exact hi.run _ _ _ _ e1 B al σ H _ wd rs h
/-- the readings in a comprehension's block, wherever it stands -/
def uT (X : Cx) (scope : Scope) (ifs : List Expr) : TT := fun σ H Q => ∀ (s : Shared) (H0 : Hp) (C : Addr) (cl : List (Str × Addr)) (fp : List Addr), wTs (X.blk s H0 scope (compEnvC scope cl C X.env) fp) ifs σ H Q
def uE (X : Cx) (scope : Scope) (elt : Expr) : TE := fun σ H Q => ∀ (s : Shared) (H0 : Hp) (C : Addr) (cl : List (Str × Addr)) (fp : List Addr), wE (X.blk s H0 scope (compEnvC scope cl C X.env) fp) elt σ H Q
theorem uT_ok {scope : Scope} (s : Shared) (H0 : Hp) (C : Addr) (cl : List (Str × Addr)) (fp : List Addr) : PTs (X.blk s H0 scope (compEnvC scope cl C X.env) fp) ifs (uT X scope ifs) := ⟨fun pins s1 σ H Q I h => h s H0 C cl fp pins s1 I⟩
theorem uE_ok {scope : Scope} (s : Shared) (H0 : Hp) (C : Addr) (cl : List (Str × Addr)) (fp : List Addr) : PE (X.blk s H0 scope (compEnvC scope cl C X.env) fp) elt (uE X scope elt) := ⟨fun pins s1 σ H Q I h => h s H0 C cl fp pins s1 I⟩
section
variable {scope : Scope} {own : List (Str × Nat)} {pos : Pos}
theorem lc_len (hi : SI X tg iter mi) {vs : List Nat} (lt : ∀ ρ m o m', tt ρ m = some (o, m') → m.length ≤ m'.length) (le : ∀ ρ m o m', te ρ m = some (o, m') → m.length ≤ m'.length) : ∀ ρ m o m', mLc mi t tt te vs ρ m = some (o, m') → m.length ≤ m'.length := fun ρ m o m' q =>
  bnd_len q (hi.len ρ m) fun ds m1 q1 => by
    obtain ⟨_, zs, qz, _⟩ := mLc_cases q1
    exact Nat.le_of_eq (lcL_len lt le _ _ _ _ _ _ qz).symm
/-- where a comprehension's parts stand in its block -/
structure Blk (X : Cx) (scope : Scope) (ifs : List Expr) (elt : Expr) (tt : TM) (te : EM) : Prop where
  t : ∀ (s : Shared) (H : Hp) (C : Addr) (cl : List (Str × Addr)) (fp : List Addr), STs (X.blk s H scope (compEnvC scope cl C X.env) fp) ifs tt
  e : ∀ (s : Shared) (H : Hp) (C : Addr) (cl : List (Str × Addr)) (fp : List Addr), SE (X.blk s H scope (compEnvC scope cl C X.env) fp) elt te
theorem Blk.lens (b : Blk X scope ifs elt tt te) : (∀ ρ m o m', tt ρ m = some (o, m') → m.length ≤ m'.length) ∧ (∀ ρ m o m', te ρ m = some (o, m') → m.length ≤ m'.length) :=
  ⟨(b.t ⟨{}, #[], {}, 1, {}⟩ (fun _ => none) 0 [] []).len, (b.e ⟨{}, #[], {}, 1, {}⟩ (fun _ => none) 0 [] []).len⟩
theorem Blk.run (b : Blk X scope ifs elt tt te) {vs : List Nat} (ho : t.ok vs = true) (hi : SI X tg iter mi) {ρ : Slots} {m m' : Mem} {o : Out W} (q : mLc mi t tt te vs ρ m = some (o, m')) {B : Hp} {al : Pl} {σ : L2.St} {H : Hp} {Q : VK} (wd : Wd X.K B al m H) (rs : RepS X.K B al m.length σ ρ) (h : AnsE X B al m.length σ Q m' o) :
    tLc (wI X tg iter) (t.g X.K) (uT X scope ifs) (uE X scope elt) vs σ H Q :=
  lc_run ho hi q wd rs h (fun ρ1 m1 b1 m2 e B al σ H Q wd rs hq s H0 C cl fp => (b.t s H0 C cl fp).run _ _ _ _ e B al σ H Q wd rs hq) (fun ρ1 m1 w m2 e B al σ H Q wd rs hq s H0 C cl fp => (b.e s H0 C cl fp).run _ _ _ _ e B al σ H Q wd rs hq) b.lens.1 b.lens.2
theorem se_lc (hc : X.calm = true) (hN : X.N.Nodup) (hi : SI X tg iter mi) (ok : BlkOk X.N X.env.scope scope own) (hg : ∀ (s : Shared) (H : Hp) (C : Addr) (cl : List (Str × Addr)) (fp : List Addr), PG (X.blk s H scope (compEnvC scope cl C X.env) fp) tg (t.g X.K))
    (b : Blk X scope ifs elt tt te) (ho : t.ok (own.map (·.2)) = true) (hs : ∀ x, foldedSetIterable iter X.env x = pure x) : SE X (.ListComp elt [⟨tg, iter, ifs, 0⟩] scope pos) (mLc mi t tt te (own.map (·.2))) :=
  ⟨lc_len hi b.lens.1 b.lens.2, fun ρ m o m' q B al σ H Q wd rs h pins s I => (pe_lc hc hN pi_w ok hg uT_ok uE_ok hs).run pins s σ H Q I (b.run ho hi q wd rs h)⟩
theorem ss_setLc (i : Nat) {y : Str} {py spos : Pos} (hc : X.calm = true) (hN : X.N.Nodup) (hy : X.N[i]? = some y) (hyl : X.env.scope.names.lookup y = some .local) (hsw : swapsWith (.ListComp elt [⟨tg, iter, ifs, 0⟩] scope pos) (some (.Name y py)) spos.line X.env = pure true)
    (hi : SI X tg iter mi) (ok : BlkOk X.N X.env.scope scope own) (hg : ∀ (s : Shared) (H : Hp) (C : Addr) (cl : List (Str × Addr)) (fp : List Addr), PG (X.blk s H scope (compEnvC scope cl C X.env) fp) tg (t.g X.K))
    (b : Blk X scope ifs elt tt te) (ho : t.ok (own.map (·.2)) = true) (hs : ∀ x, foldedSetIterable iter X.env x = pure x) : SS X (.Assign [.Name y py] (.ListComp elt [⟨tg, iter, ifs, 0⟩] scope pos) spos) (sSet i (mLc mi t tt te (own.map (·.2)))) := by
  refine ⟨fun ρ m f m' q => sbd_len q (lc_len hi b.lens.1 b.lens.2 ρ m) fun w m1 q1 => by cases q1; exact Nat.le_refl _, fun ρ m f m' q B al σ H D wd rs h pins s I => (ps_setLc hc hN hy hyl hsw pi_w ok hg uT_ok uE_ok hs).run pins s σ H D I ?_⟩
  show tLc _ _ _ _ _ σ H fun x H1 => D.nx (σ.set i (some x)) H1
  rcases sbd_cases q with ⟨w, m1, e1, e2⟩ | ⟨c, fs, e1, rfl⟩
  · have l1 := lc_len hi b.lens.1 b.lens.2 _ _ _ _ e1
    refine b.run (Q := fun x H1 => D.nx (σ.set i (some x)) H1) ho hi e1 wd rs fun B1 al1 v1 H1 x1 g1 wd1 r1 => ?_
    cases e2
    exact h B1 al1 _ H1 x1 g1 wd1 ((rs.mono x1 g1 l1).set r1)
  · exact b.run (Q := fun x H1 => D.nx (σ.set i (some x)) H1) ho hi e1 wd rs (SFlies.at h rs (lc_len hi b.lens.1 b.lens.2 _ _ _ _ e1))
end
end
end Dm
/-! Dm, part 7: where code stands, the rule for a def, the law's end. -/
namespace Dm
open PySem PySem.Spec PyProof.Rows L2
open Evl (Ex)
variable [Lams]
/-- where code stands: the names by slot, the scope, the level of calls, whose cells are made here -/
structure Good (X : Cx) (N : List Str) (sc : Scope) (k : Nat) (fn : Str → Bool) : Prop where
  N : X.N = N
  sc : X.env.scope = sc
  room : Room k X.A
  gd : X.A.guards = some []
  calm : X.calm = true
  fn : X.fn = fn
  nd : X.N.Nodup
  sm : ∃ mm, X.base.Ns sysModules mm
/-- .. in a def's own body -/
structure GoodF (X : Cx) (N : List Str) (sc : Scope) (k : Nat) : Prop extends Good X N sc k (fun _ => true) where
  pass : PassesOwn (model X.prog X.w) X.A X.env X.xe
  tk : ∃ E : XK, Takes X (fun cls d _ H => E cls d H)
  stk : X.stack = X.env :: X.outer
  frm : X.env.frame = some X.env.locals
theorem Good.blk {X : Cx} {N : List Str} {sc : Scope} {k : Nat} {fn : Str → Bool} (g : Good X N sc k fn) (scope : Scope) (s : Shared) (H : Hp) (C : Addr) (cl : List (Str × Addr)) (fp : List Addr) :
    Good (X.blk s H scope (compEnvC scope cl C X.env) fp) N (relS scope sc) k (fun x => scope.names.lookup x == some .cell) :=
  ⟨g.N, by show relS scope X.env.scope = relS scope sc; rw [g.sc], g.room, g.gd, g.calm, rfl, g.nd, g.sm⟩
/-- the global facts of a law -/
structure Tx (fa : List He.Fa) (fn : List He.DefD) (K : PySem.W.Frag) (mg : Str → Option Value) (bs : Heap) : Prop where
  says : He.SaysD fa fn K
  inK : K.In bs
  ns : bs.Ns mainGlobals mg
  sm : ∃ mm, bs.Ns sysModules mm
section
variable {fa : List He.Fa} {fn : List He.DefD} {K : PySem.W.Frag} {mg : Str → Option Value} {bs : Heap}
theorem Tx.glo (t : Tx fa fn K mg bs) (i : Nat) {x : Str} (h : fa[i]? = some (.glo x)) : mg x = some (.ref (He.ga K x)) := He.glo_ok t.inK t.ns (t.says.fact i h)
theorem Tx.free (t : Tx fa fn K mg bs) (i : Nat) {x : Str} (h : fa[i]? = some (.free x)) : mg x = none := He.free_ok t.inK t.ns (t.says.fact i h)
theorem Tx.int (t : Tx fa fn K mg bs) (i : Nat) {x : Str} {j : Int} (h : fa[i]? = some (.int x j)) : ∃ tk, mg x = some (.int j tk) := He.int_ok t.inK t.ns (t.says.fact i h)
theorem Tx.str (t : Tx fa fn K mg bs) (i : Nat) {x z : Str} (h : fa[i]? = some (.str x z)) : ∃ tk, mg x = some (.str z tk) := He.str_ok t.inK t.ns (t.says.fact i h)
end
/-- a module's constants -/
theorem se_gint {X : Cx} {x : Str} {j : Int} {pos : Pos} (hg : Gl X x) (hm : ∃ tk, X.mg x = some (.int j tk)) (hd : (x == ("__debug__" : Str)) = false := by decide) : SE X (.Name x pos) (mC (.int j)) := by
  obtain ⟨tk, e⟩ := hm
  exact .ofC (pe_glob (v := .int j) hg e ⟨tk, rfl⟩ hd) fun _ => .int j
theorem se_gstr {X : Cx} {x z : Str} {pos : Pos} (hg : Gl X x) (hm : ∃ tk, X.mg x = some (.str z tk)) (hd : (x == ("__debug__" : Str)) = false := by decide) : SE X (.Name x pos) (mC (.str z)) := by
  obtain ⟨tk, e⟩ := hm
  exact .ofC (pe_glob (v := .str z) hg e ⟨tk, rfl⟩ hd) fun _ => .str z
/-- a def that does what its mirror says -/
structure DefOk (P : Program) (w : World) (K : PySem.W.Frag) (mg : Str → Option Value) (bs : Heap) (x : Str) (k : Nat) (ps : List Str) (mf : FM) : Prop where
  ex : ∃ fd, FnG P w K mg bs k (He.ga K x) fd ps (spM K ps.length mf) ∧ PySem.W.keepIn K (.ref (He.ga K x)) = true ∧ Bdg K fd ps ps.length [] (fun ws _ => ws)
  len : LenF mf
/-- .. called with keywords too -/
structure DefKw (P : Program) (w : World) (K : PySem.W.Frag) (mg : Str → Option Value) (bs : Heap) (x : Str) (k : Nat) (ps : List Str) (mf : FM) (n : Nat) (ks : List Str) (gW : List W → List W → List W) : Prop where
  ex : ∃ fd, FnG P w K mg bs k (He.ga K x) fd ps (spM K ps.length mf) ∧ PySem.W.keepIn K (.ref (He.ga K x)) = true ∧ Bdg K fd ps n ks gW
  len : LenF mf
theorem mFn_len {N : List Str} {body : SM} (h : ∀ ρ m f m', body ρ m = some (f, m') → m.length ≤ m'.length) : LenF (mFn N body) := fun ws m o m' q => by
  rcases mFn_cases q with ⟨w, e, _⟩ | ⟨ρ, e, _⟩ | ⟨c, fs, ρ, e, _⟩ <;> exact h _ _ _ _ e
/-- the arguments given by position alone -/
theorem bdg_pos {K : PySem.W.Frag} {x qual : Str} {params : Arguments} {body : List Stmt} {scope : Scope} {f : Addr} {fd : FuncData} {ps : List Str} {kws : List (Str × V)} (F : FunD K x qual params body scope [] kws f fd)
    (h : ∀ (kV doc pm : Value) (an : Option Addr) (cdv ct : Value) (us : List Value), us.length = ps.length → bindArgs (PySem.W.fnOf x qual params body scope .none kV doc pm an cdv ct) ⟨us, []⟩ = pure (ps.zip us)) : Bdg K fd ps ps.length [] (fun ws _ => ws) := by
  refine ⟨fun us _ => us, fun vs _ => vs, ⟨fun s us ws _ l1 l2 => ?_, fun r _ => r⟩, fun vs _ l _ => l, fun B al j vs zs ws us _ _ r _ => r⟩
  have e : ws = [] := by
    cases ws with
    | nil => rfl
    | cons => cases l2
  subst e
  exact FunD.bindsA F h s us l1
/-- a rearrangement by places: what stands where -/
def byIx {α : Type} (is : List Nat) (xs : List α) : List α := is.filterMap fun i => xs[i]?
theorem byIx_rep {K : PySem.W.Frag} {B : Hp} {al : Pl} {j : Nat} {vs : List V} {ws : List W} (r : RepL K B al j vs ws) : ∀ is : List Nat, RepL K B al j (byIx is vs) (byIx is ws) := by
  have get : ∀ {vs : List V} {ws : List W} (i : Nat), RepL K B al j vs ws → (vs[i]? = none ∧ ws[i]? = none) ∨ ∃ v w, vs[i]? = some v ∧ ws[i]? = some w ∧ RepW K B al j v w := by
    intro vs
    induction vs with
    | nil =>
      intro ws i r
      cases ws with
      | nil => exact .inl ⟨rfl, rfl⟩
      | cons => exact r.elim
    | cons v vs ih =>
      intro ws i r
      cases ws with
      | nil => exact r.elim
      | cons w ws =>
        cases i with
        | zero => exact .inr ⟨v, w, rfl, rfl, r.1⟩
        | succ i => simpa using ih i r.2
  intro is
  induction is with
  | nil => trivial
  | cons i is ih =>
    unfold byIx at ih ⊢
    rw [List.filterMap_cons, List.filterMap_cons]
    rcases get i r with ⟨h1, h2⟩ | ⟨v, w, h1, h2, h3⟩
    · rw [h1, h2]; exact ih
    · rw [h1, h2]; exact ⟨h3, ih⟩
theorem byIx_vals {vs : List V} {us : List Value} (r : Vals vs us) : ∀ is : List Nat, Vals (byIx is vs) (byIx is us) := by
  intro is
  induction is with
  | nil => exact .nil
  | cons i is ih =>
    unfold byIx at ih ⊢
    rw [List.filterMap_cons, List.filterMap_cons]
    cases e : vs[i]? with
    | none => rw [r.none_of e]; exact ih
    | some v =>
      obtain ⟨u, h1, h2⟩ := r.get e
      rw [h1]; exact .cons h2 ih
theorem RepL.append {K : PySem.W.Frag} {B : Hp} {al : Pl} {j : Nat} : ∀ {vs zs : List V} {ws us : List W}, RepL K B al j vs ws → RepL K B al j zs us → RepL K B al j (vs ++ zs) (ws ++ us)
  | [], _, [], _, _, s => s
  | _ :: _, _, _ :: _, _, r, s => ⟨r.1, RepL.append r.2 s⟩
  | [], _, _ :: _, _, r, _ => r.elim
  | _ :: _, _, [], _, r, _ => r.elim
/-- the arguments by position, then by keywords, put into the parameters' order (is: for each parameter its place among them) -/
theorem bdg_kw {K : PySem.W.Frag} {x qual : Str} {params : Arguments} {body : List Stmt} {scope : Scope} {f : Addr} {fd : FuncData} {ps : List Str} {kws : List (Str × V)} (F : FunD K x qual params body scope [] kws f fd) (n : Nat) (ks : List Str) (is : List Nat)
    (h : ∀ (kV doc pm : Value) (an : Option Addr) (cdv ct : Value) (us ws : List Value), us.length = n → ws.length = ks.length → bindArgs (PySem.W.fnOf x qual params body scope .none kV doc pm an cdv ct) ⟨us, ks.zip ws⟩ = pure (ps.zip (byIx is (us ++ ws))))
    (hl : ∀ (vs zs : List V), vs.length = n → zs.length = ks.length → (byIx is (vs ++ zs)).length = ps.length) : Bdg K fd ps n ks (fun ws us => byIx is (ws ++ us)) := by
  refine ⟨fun us ws => byIx is (us ++ ws), fun vs zs => byIx is (vs ++ zs), ⟨fun s us ws _ l1 l2 => ?_, fun r r2 => byIx_vals (r.append r2) is⟩, hl, fun B al j vs zs ws us _ _ r r2 => byIx_rep (r.append r2) is⟩
  obtain ⟨oc, od, dV, kV, doc, pm, an, cdv, ct, osl, rfl, lk, hcd, hD, hK⟩ := F.ex
  rcases hD with ⟨_, rfl⟩ | ⟨e, _⟩
  · exact .of_eq (h kV doc pm an cdv ct us ws l1 l2)
  · exact absurd rfl e
/-- THE RULE for a def -/
theorem def_fnG {P : Program} {w : World} {K : PySem.W.Frag} {mg : Str → Option Value} {bs : Heap} {x qual : Str} {params : Arguments} {bd : List Stmt} {sc : Scope} {dvs : List V} {kws : List (Str × V)} {f : Addr} {fd : FuncData} {N ps : List Str} {k : Nat} {body : SM}
    (F : FunD K x qual params bd sc dvs kws f fd) (S : FnScope N ps sc) (hsm : ∃ mm, bs.Ns sysModules mm) (hb : ∀ X : Cx, X.prog = P → X.w = w → X.K = K → X.mg = mg → X.base = bs → GoodF X N sc k → SSs X bd body) : FnG P w K mg bs (k + 1) f fd ps (spM K ps.length (mFn N body)) := by
  obtain ⟨oc, od, dV, kV, doc, pm, an, cdv, ct, osl, rfl, lk, hcd, _, _⟩ := F.ex
  refine fnG_of lk hcd S (fun vs H Q E h => h.1) fun A fr s H vs Q E hG rm h => ⟨wSs _ bd, pss_w, ?_⟩
  obtain ⟨hl, B, al, m, ws, o, m', q, wd, r, ho⟩ := h
  have hx : Takes (cxOf (L2.CX P w) P w K mg bs N qual sc f cdv A fr s H E) (fun cls d _ H => E cls d H) := takes_of rfl rfl rfl rfl
  have g : GoodF (cxOf (L2.CX P w) P w K mg bs N qual sc f cdv A fr s H E) N sc k := ⟨⟨rfl, rfl, rm, hG, rfl, rfl, S.nd, hsm⟩, passes_of rfl, ⟨E, hx⟩, rfl, rfl⟩
  have b := hb _ rfl rfl rfl rfl rfl g
  have rs := repS_start (N := N) r
  rcases mFn_cases q with ⟨u, e, rfl⟩ | ⟨ρ, e, rfl⟩ | ⟨c, fs, ρ, e, rfl⟩
  · exact b.run _ _ _ _ e B al _ H _ wd rs ho
  · exact b.run _ _ _ _ e B al _ H _ wd rs fun B1 al1 σ1 H1 e1 g1 wd1 rs1 => ho B1 al1 .non H1 e1 g1 wd1 .non
  · exact b.run _ _ _ _ e B al _ H _ wd rs ⟨_, hx, fun B1 al1 σ1 cls oa H1 e1 g1 wd1 rs1 rx => ho B1 al1 cls oa H1 e1 g1 wd1 rx⟩
/-- f(e, ..), every parameter given by position -/
theorem se_callP {X : Cx} {x : Str} {k j : Nat} {ps : List Str} {mf : FM} {e : Expr} {es : List Expr} {ma : AM} {p pos : Pos} (F : DefOk X.prog X.w X.K X.mg X.base x j ps mf) (hj : j ≤ k) (hr : Room k X.A) (hG : X.A.guards = some []) (hg : Gl X x) (hm : X.mg x = some (.ref (He.ga X.K x)))
    (ha : SA X (e :: es) ma) (h0 : noStar e = true := by rfl) (h1 : es.all noStar = true := by rfl) (hdb : (x == ("__debug__" : Str)) = false := by decide) : SE X (.Call (.Name x p) (e :: es) [] pos) (mDef ps.length 0 (fun ws _ => ws) mf ma mNil) := by
  obtain ⟨fd, G, kp, b⟩ := F.ex
  exact se_call (G.mono hj) F.len hr hG b hg hm kp ha h0 h1 hdb
theorem se_callP0 {X : Cx} {x : Str} {k j : Nat} {mf : FM} {p pos : Pos} (F : DefOk X.prog X.w X.K X.mg X.base x j [] mf) (hj : j ≤ k) (hr : Room k X.A) (hG : X.A.guards = some []) (hg : Gl X x) (hm : X.mg x = some (.ref (He.ga X.K x)))
    (hdb : (x == ("__debug__" : Str)) = false := by decide) : SE X (.Call (.Name x p) [] [] pos) (mDef 0 0 (fun ws _ => ws) mf mNil mNil) := by
  obtain ⟨fd, G, kp, b⟩ := F.ex
  exact se_call0 (G.mono hj) F.len hr hG b hg hm kp hdb
/-- f(.., k = v, ..) -/
theorem se_callN {X : Cx} {x : Str} {k j n : Nat} {ps ks : List Str} {mf : FM} {gW : List W → List W → List W} {e : Expr} {es : List Expr} {kws : List Keyword} {ma mk : AM} {p pos : Pos} (F : DefKw X.prog X.w X.K X.mg X.base x j ps mf n ks gW) (hj : j ≤ k) (hr : Room k X.A) (hG : X.A.guards = some []) (hg : Gl X x) (hm : X.mg x = some (.ref (He.ga X.K x)))
    (ha : SA X (e :: es) ma) (hw : SK X kws mk) (hall : (kws.map (·.arg)).all (·.isSome) = true := by rfl) (hks : (kws.map (·.arg)).filterMap id = ks := by rfl) (h0 : noStar e = true := by rfl) (h1 : es.all noStar = true := by rfl) (hdb : (x == ("__debug__" : Str)) = false := by decide) :
    SE X (.Call (.Name x p) (e :: es) kws pos) (mDef n ks.length gW mf ma mk) := by
  obtain ⟨fd, G, kp, b⟩ := F.ex
  exact se_callK (G.mono hj) F.len hr hG b hg hm kp ha hw hall hks h0 h1 hdb
theorem se_callN0 {X : Cx} {x : Str} {k j : Nat} {ps ks : List Str} {mf : FM} {gW : List W → List W → List W} {kws : List Keyword} {mk : AM} {p pos : Pos} (F : DefKw X.prog X.w X.K X.mg X.base x j ps mf 0 ks gW) (hj : j ≤ k) (hr : Room k X.A) (hG : X.A.guards = some []) (hg : Gl X x) (hm : X.mg x = some (.ref (He.ga X.K x)))
    (hw : SK X kws mk) (hall : (kws.map (·.arg)).all (·.isSome) = true := by rfl) (hks : (kws.map (·.arg)).filterMap id = ks := by rfl) (hdb : (x == ("__debug__" : Str)) = false := by decide) :
    SE X (.Call (.Name x p) [] kws pos) (mDef 0 ks.length gW mf mNil mk) := by
  obtain ⟨fd, G, kp, b⟩ := F.ex
  exact se_callK0 (G.mono hj) F.len hr hG b hg hm kp hw hall hks hdb
/-- the tables of the program's lambdas -/
def tabsOf (K : PySem.W.Frag) : List Addr := Lams.tabs.map fun p => tabA K p.1
/-- the law's def: of every script its mirror says True -/
theorem law_sp {K : PySem.W.Frag} {mf : FM} {n : Nat} (h : ∀ ns : List Int, ns.length ≤ n → (∀ z ∈ ns, Builtin.Int.intBits z ≤ 1048576) → ∃ m', mf [.dat (.lst (ns.map .int))] [] = some (.ok (.dat (.bl true)), m')) (H : Hp) (a : Addr) (ns : List Int) (hl : ns.length ≤ n) (hb : ∀ z ∈ ns, Builtin.Int.intBits z ≤ 1048576) (ho : OnlyT (tabsOf K) H) (hs : SqL K H a (ns.map V.int)) :
    spM K 1 mf [.ref a] H (fun v _ => v = .bl true) fun _ _ _ => False := by
  obtain ⟨m', e⟩ := h ns hl hb
  have noCell : ∀ (k : Nat) (c : Cell), ([] : Mem)[k]? = some c → False := fun k c e => by simp at e
  let B : Hp := fun b => if b ∈ tabsOf K then none else H b
  have offB : ∀ b, b ∈ tabsOf K → B b = none := fun b ht => if_pos ht
  have onB : ∀ b, b ∉ tabsOf K → B b = H b := fun b ht => if_neg ht
  have exB : Ex B H := fun b o e => by
    by_cases ht : b ∈ tabsOf K
    · rw [offB b ht] at e; cases e
    · rw [onB b ht] at e; exact e
  have sqB : SqL K B a (ns.map V.int) := by
    rcases hs with hs | hs
    · refine .inl ?_
      have ht : a ∉ tabsOf K := fun z => by
        have t := ho.1 a z
        rcases hs with q | ⟨o, q⟩ <;> (rw [t] at q; cases q)
      rcases hs with q | ⟨o, q⟩
      · exact .inl (by rw [onB a ht]; exact q)
      · exact .inr ⟨o, by rw [onB a ht]; exact q⟩
    · exact .inr hs
  have wd0 : Wd K B ⟨fun _ => 0, fun _ => none⟩ [] H := ⟨exB, fun k c e _ => (noCell k c e).elim, fun j k c c' e => (noCell j c e).elim, fun a u e => (by cases (show (none : Option HO) = some u from e)), fun a ha => absurd rfl ha, fun k c e _ => (noCell k c e).elim, fun b o e => by
    have e' := exB b o e
    rcases ho.2 b with z | ⟨z, _⟩ | ⟨ob, xs, z⟩
    · rw [z] at e'; cases e'
    · rw [offB b z] at e; cases e
    · rw [z] at e'; cases e'; rfl, fun p hp => by
    have ht : tabA K p.1 ∈ tabsOf K := List.mem_map.mpr ⟨p, hp, rfl⟩
    refine ⟨#[], ho.1 _ ht, trivial, fun pos cv z => ?_, offB _ ht, rfl⟩
    unfold codeAmong at z
    cases z⟩
  have rep0 : ∀ {ns : List Int}, Reps K B (ns.map V.int) (ns.map D.int) := fun {ns} => by
    induction ns with
    | nil => exact .nil
    | cons z r ih => exact .cons (.int z) ih
  refine ⟨rfl, B, ⟨fun _ => 0, fun _ => none⟩, [], _, _, m', e, wd0, ⟨.lst sqB rep0, trivial⟩, fun B' al' v H' _ _ _ r => ?_⟩
  cases (r : Rep K B' v (.bl true))
  rfl
end Dm
/-! Dm, part 8: data as the library's data; ==, in, repr. -/
namespace Dm
open PySem PySem.Spec PyProof.Rows L2
open Evl (Ex)
variable [Lams]

/-! ### the library's data -/
mutual
def py : D → PyData
  | .bl b => .bool b
  | .int i => .int i
  | .str x => .str x
  | .tup ds => .tuple (pys ds)
  | .lst ds => .list (pys ds)
  | .dct es => .dict (pyk es)
  | .non => .none
  | .ty _ => .none
  | .cl _ => .none
  | .obj _ _ => .none
  | .exc _ _ => .none
def pys : List D → List PyData
  | [] => []
  | d :: r => py d :: pys r
def pyk : List (D × D) → List (PyData × PyData)
  | [] => []
  | (k, v) :: r => (py k, py v) :: pyk r
end
def okS (x : Str) : Bool := x.cps.toList.all fun c => decide (c < 1114112)
/-- plain data: no dict, no object within -/
def plD : Nat → D → Bool
  | _, .non => true
  | _, .bl _ => true
  | _, .int _ => true
  | _, .str _ => true
  | n + 1, .tup ds => ds.all (plD n)
  | n + 1, .lst ds => ds.all (plD n)
  | _, _ => false
def flatK : D → Bool
  | .int _ => true
  | .str _ => true
  | _ => false
/-- what repr shows: dicts of ints and texts too -/
def shD : Nat → D → Bool
  | _, .non => true
  | _, .bl _ => true
  | _, .int i => decide (i.natAbs.log2 < 1900)
  | _, .str x => okS x
  | n + 1, .tup ds => ds.all (shD n)
  | n + 1, .lst ds => ds.all (shD n)
  | n + 1, .dct es => es.all fun e => flatK e.1 && shD n e.1 && shD n e.2
  | _, _ => false
mutual
/-- a bound of what repr shows -/
def wgt : D → Nat
  | .int _ => 2000
  | .str x => 10 * x.length + 2
  | .tup ds => 4 + wgts ds
  | .lst ds => 4 + wgts ds
  | .dct es => 4 + wgtk es
  | _ => 5
def wgts : List D → Nat
  | [] => 0
  | d :: r => wgt d + 2 + wgts r
def wgtk : List (D × D) → Nat
  | [] => 0
  | (k, v) :: r => wgt k + wgt v + 4 + wgtk r
end
theorem plD_ok : ∀ (n : Nat) (d : D), plD n d = true → (py d).plain = true ∧ (py d).depth ≤ n := by
  intro n
  induction n with
  | zero => intro d h; cases d <;> first | exact ⟨rfl, Nat.zero_le _⟩ | (cases h; done)
  | succ n ih =>
    have all : ∀ ds : List D, ds.all (plD n) = true → PyData.plainAll (pys ds) = true ∧ PyData.depthAll (pys ds) ≤ n := by
      intro ds
      induction ds with
      | nil => intro _; exact ⟨rfl, Nat.zero_le _⟩
      | cons d r ihr =>
        intro h
        rw [List.all_cons, Bool.and_eq_true] at h
        obtain ⟨p1, p2⟩ := ih d h.1
        obtain ⟨q1, q2⟩ := ihr h.2
        refine ⟨?_, ?_⟩
        · show ((py d).plain && PyData.plainAll (pys r)) = true
          rw [p1, q1]; rfl
        · show max (py d).depth (PyData.depthAll (pys r)) ≤ n
          omega
    intro d h
    cases d with
    | tup ds =>
      obtain ⟨p, q⟩ := all ds h
      exact ⟨p, Nat.succ_le_succ q⟩
    | lst ds =>
      obtain ⟨p, q⟩ := all ds h
      exact ⟨p, Nat.succ_le_succ q⟩
    | dct => cases h
    | ty => cases h
    | cl => cases h
    | obj => cases h
    | exc => cases h
    | _ => exact ⟨rfl, Nat.zero_le _⟩
theorem shD_ok : ∀ (n : Nat) (d : D), shD n d = true → (py d).showable = true ∧ (py d).depth ≤ n := by
  intro n
  induction n with
  | zero =>
    intro d h
    cases d <;> first | exact ⟨rfl, Nat.zero_le _⟩ | (cases h; done) | skip
    next i =>
      have h' : i.natAbs.log2 < 1900 := of_decide_eq_true h
      exact ⟨(by show decide (i.natAbs.log2 < 1920) = true; exact decide_eq_true (by omega)), Nat.zero_le _⟩
  | succ n ih =>
    have all : ∀ ds : List D, ds.all (shD n) = true → PyData.showableAll (pys ds) = true ∧ PyData.depthAll (pys ds) ≤ n := by
      intro ds
      induction ds with
      | nil => intro _; exact ⟨rfl, Nat.zero_le _⟩
      | cons d r ihr =>
        intro h
        rw [List.all_cons, Bool.and_eq_true] at h
        obtain ⟨p1, p2⟩ := ih d h.1
        obtain ⟨q1, q2⟩ := ihr h.2
        refine ⟨?_, ?_⟩
        · show ((py d).showable && PyData.showableAll (pys r)) = true
          rw [p1, q1]; rfl
        · show max (py d).depth (PyData.depthAll (pys r)) ≤ n
          omega
    intro d h
    cases d with
    | tup ds =>
      obtain ⟨p, q⟩ := all ds h
      exact ⟨p, Nat.succ_le_succ q⟩
    | lst ds =>
      obtain ⟨p, q⟩ := all ds h
      exact ⟨p, Nat.succ_le_succ q⟩
    | dct es =>
      have h' : (es.all fun e => flatK e.1 && shD n e.1 && shD n e.2) = true := h
      have kv : ∀ es : List (D × D), (es.all fun e => flatK e.1 && shD n e.1 && shD n e.2) = true → PyData.showableKv (pyk es) = true ∧ PyData.depthKv (pyk es) ≤ n := by
        intro es
        induction es with
        | nil => intro _; exact ⟨rfl, Nat.zero_le _⟩
        | cons e r ihr =>
          intro h
          rw [List.all_cons, Bool.and_eq_true, Bool.and_eq_true, Bool.and_eq_true] at h
          obtain ⟨p1, p2⟩ := ih _ h.1.1.2
          obtain ⟨r1, r2⟩ := ih _ h.1.2
          obtain ⟨q1, q2⟩ := ihr h.2
          refine ⟨?_, ?_⟩
          · show ((py e.1).showable && (py e.2).showable && PyData.showableKv (pyk r)) = true
            rw [p1, q1, r1]; rfl
          · show max (max (py e.1).depth (py e.2).depth) (PyData.depthKv (pyk r)) ≤ n
            omega
      obtain ⟨p, q⟩ := kv es h'
      exact ⟨p, Nat.succ_le_succ q⟩
    | int i =>
      have h' : i.natAbs.log2 < 1900 := of_decide_eq_true h
      exact ⟨(by show decide (i.natAbs.log2 < 1920) = true; exact decide_eq_true (by omega)), Nat.zero_le _⟩
    | ty => cases h
    | cl => cases h
    | obj => cases h
    | exc => cases h
    | _ => exact ⟨rfl, Nat.zero_le _⟩
theorem listText_le (ts : List Str) : (listText ts).length ≤ piled ts + 4 := by
  cases ts with
  | nil => decide
  | cons t r =>
    have h := textFrom_length_pos r 1 (("[" : Str) ++ (if (0 : Nat) > 0 then ", " else "" : String) ++ t) (Nat.succ_pos 0)
    have e : ((("[" : Str) ++ (if (0 : Nat) > 0 then ", " else "" : String) ++ t)).length = 1 + t.length := by
      rw [strLen_append, strLen_append]; rfl
    have hX : (listText (t :: r)).length = (textFrom 0 "[" (t :: r)).length + 1 := by
      show (textFrom 0 "[" (t :: r) ++ "]").length = _
      rw [strLen_append]; rfl
    have hY : (textFrom 0 "[" (t :: r)).length = (textFrom 1 (("[" : Str) ++ (if (0 : Nat) > 0 then ", " else "" : String) ++ t) r).length := rfl
    rw [hX, hY, h, e, piled_cons]; omega
theorem tupleText_le (ts : List Str) : (tupleText ts).length ≤ piled ts + 4 := by
  unfold tupleText
  rw [strLen_append, strLen_append]
  have e1 : ((("(" : String) : Str)).length = 1 := rfl
  have e3 : (((if ts.length == 1 then ",)" else ")" : String) : Str)).length ≤ 2 := by split <;> decide
  rw [e1]
  by_cases h : ts = []
  · subst h; decide
  · have := join_length_add ts h
    omega
theorem dictText_le (ts : List Str) : (dictText ts).length ≤ piled ts + 4 := by
  unfold dictText
  rw [strLen_append, strLen_append]
  have e1 : ((("{" : String) : Str)).length = 1 := rfl
  have e3 : ((("}" : String) : Str)).length = 1 := rfl
  rw [e1, e3]
  by_cases h : ts = []
  · subst h; decide
  · have := join_length_add ts h
    omega
theorem shown_le : ∀ (n : Nat) (d : D), shD n d = true → (py d).shown.length ≤ wgt d := by
  have int : ∀ (i : Int), i.natAbs.log2 < 1900 → ((toString i : String) : Str).length ≤ 2000 := fun i h => by
    have e := int_text_length_le (k := 1900) (by decide) h
    rw [PySem.ofString_length]; omega
  have str : ∀ x : Str, okS x = true → (reprText x).length ≤ 10 * x.length + 2 := fun x h => StrLaws.reprText_len x fun c hc => by
    have := of_decide_eq_true (List.all_eq_true.mp h c hc)
    omega
  intro n
  induction n with
  | zero =>
    intro d h
    cases d with
    | int i => exact int i (of_decide_eq_true h)
    | str x => exact str x h
    | bl b => cases b <;> decide
    | non => decide
    | _ => cases h
  | succ n ih =>
    have all : ∀ ds : List D, ds.all (shD n) = true → piled (PyData.shownAll (pys ds)) ≤ wgts ds := by
      intro ds
      induction ds with
      | nil => intro _; exact Nat.le_refl _
      | cons d r ihr =>
        intro h
        rw [List.all_cons, Bool.and_eq_true] at h
        have p := ih d h.1
        have q := ihr h.2
        show piled ((py d).shown :: PyData.shownAll (pys r)) ≤ wgt d + 2 + wgts r
        rw [piled_cons]; omega
    intro d h
    cases d with
    | tup ds =>
      have p := all ds h
      have q := tupleText_le (PyData.shownAll (pys ds))
      show (tupleText (PyData.shownAll (pys ds))).length ≤ 4 + wgts ds
      omega
    | lst ds =>
      have p := all ds h
      have q := listText_le (PyData.shownAll (pys ds))
      show (listText (PyData.shownAll (pys ds))).length ≤ 4 + wgts ds
      omega
    | dct es =>
      have h' : (es.all fun e => flatK e.1 && shD n e.1 && shD n e.2) = true := h
      have kv : ∀ es : List (D × D), (es.all fun e => flatK e.1 && shD n e.1 && shD n e.2) = true → piled (PyData.shownKv (pyk es)) ≤ wgtk es := by
        intro es
        induction es with
        | nil => intro _; exact Nat.le_refl _
        | cons e r ihr =>
          intro h
          rw [List.all_cons, Bool.and_eq_true, Bool.and_eq_true, Bool.and_eq_true] at h
          have p1 := ih _ h.1.1.2
          have p2 := ih _ h.1.2
          have q := ihr h.2
          show piled (((py e.1).shown ++ ": " ++ (py e.2).shown) :: PyData.shownKv (pyk r)) ≤ wgt e.1 + wgt e.2 + 4 + wgtk r
          rw [piled_cons, strLen_append, strLen_append]
          have e2 : (((": " : String) : Str)).length = 2 := rfl
          rw [e2]; omega
      have p := kv es h'
      have q := dictText_le (PyData.shownKv (pyk es))
      show (dictText (PyData.shownKv (pyk es))).length ≤ 4 + wgtk es
      omega
    | int i => exact int i (of_decide_eq_true h)
    | str x => exact str x h
    | bl b => cases b <;> decide
    | non => decide
    | _ => cases h

/-! ### what stands for data reads as data -/
section
variable {X : Cx} {pins : List (Addr × Obj)} {σ : L2.St} {H : Hp} {s : Shared}
theorem notMods (I : Inv X pins σ H s) (hm : ∃ mm, X.base.Ns sysModules mm) {a : Addr} {o : Obj} {its : Array Value} {n : Nat} (e : s.heap.get? a = some o) (d : o.data = .seq its n) : sysModules ≠ a := by
  intro z
  subst z
  obtain ⟨mm, o', es, ep, e', d', _⟩ := hm
  rw [I.bk _ _ e'] at e
  cases e
  rw [d'] at d
  cases d
mutual
theorem Rep.reads (I : Inv X pins σ H s) (hm : ∃ mm, X.base.Ns sysModules mm) : ∀ {v : V} {d : D} {u : Value} {n : Nat}, Rep X.K H v d → (plD n d = true ∨ shD n d = true) → RelV v u → ∃ as, Reads s.heap u (py d) as ∧ sysModules ∉ as
  | _, _, _, _, .non, _, r => by cases r; exact ⟨_, .none, List.not_mem_nil⟩
  | _, _, _, _, .bl b, _, r => by cases r; exact ⟨_, .bool b, List.not_mem_nil⟩
  | _, _, _, _, .int i, _, r => by obtain ⟨t, rfl⟩ := r; exact ⟨_, .int i t, List.not_mem_nil⟩
  | _, _, _, _, .str x, _, r => by obtain ⟨t, rfl⟩ := r; exact ⟨_, .str x t, List.not_mem_nil⟩
  | _, _, _, n, .ty _, h, _ => by cases n <;> rcases h with h | h <;> cases h
  | _, _, _, n, .cl _, h, _ => by cases n <;> rcases h with h | h <;> cases h
  | _, _, _, n, .tup (vs := vs) hs rs, h, r => by
    cases r
    obtain ⟨its, rv, ⟨o, ho, hc, m, hd⟩, _⟩ := I.tuple hs
    cases n with
    | zero => rcases h with h | h <;> cases h
    | succ n =>
      obtain ⟨as, ra, na⟩ := Reps.reads I hm (n := n) rs h rv
      exact ⟨_, .tuple ho hc hd ra, na⟩
  | _, _, _, n, .lst (vs := vs) hs rs, h, r => by
    cases r
    obtain ⟨its, rv, ⟨o, m, ho, hc, _, hd⟩, _⟩ := I.list hs
    cases n with
    | zero => rcases h with h | h <;> cases h
    | succ n =>
      obtain ⟨as, ra, na⟩ := Reps.reads I hm (n := n) rs h rv
      refine ⟨_, .list ho hc hd ra, ?_⟩
      rintro (_ | ⟨_, z⟩)
      · exact notMods I hm ho hd rfl
      · exact na z
  | _, _, _, n, .dct (kvs := kvs) hs rs, h, r => by
    cases r
    obtain ⟨_, hne, vs, kv, o, es, ep, ho, hx, hd, hk, hp, _⟩ := dk_rd I.hok hs
    cases n with
    | zero => rcases h with h | h <;> cases h
    | succ n =>
      rcases h with h | h
      · cases h
      · obtain ⟨as, bs, r1, r2, n1, n2⟩ := RepK.reads I hm (n := n) rs h kv hp
        refine ⟨_, .dict ho hx.1 hd r1 r2, ?_⟩
        rintro z
        rcases List.mem_append.mp z with z | z
        · rcases List.mem_cons.mp z with z | z
          · subst z
            simp at hne
          · exact n1 z
        · exact n2 z
  | _, _, _, n, .dctT (kvs := kvs) hs rs, h, r => by
    cases r
    cases n with
    | zero => rcases h with h | h <;> cases h
    | succ n =>
      rcases h with h | h
      · cases h
      · cases rs with
        | one r1 =>
          have h' : (List.all _ _) = true := h
          rw [List.all_cons] at h'
          cases h'
        | cons r1 r2 =>
          have h' : (List.all _ _) = true := h
          rw [List.all_cons] at h'
          cases h'
  | _, _, _, n, .obj _ _, h, _ => by cases n <;> rcases h with h | h <;> cases h
  | _, _, _, n, .exc0 _, h, _ => by cases n <;> rcases h with h | h <;> cases h
  | _, _, _, n, .exc _ _ _, h, _ => by cases n <;> rcases h with h | h <;> cases h
theorem Reps.reads (I : Inv X pins σ H s) (hm : ∃ mm, X.base.Ns sysModules mm) : ∀ {vs : List V} {ds : List D} {us : List Value} {n : Nat}, Reps X.K H vs ds → (ds.all (plD n) = true ∨ ds.all (shD n) = true) → Vals vs us → ∃ as, ReadsAll s.heap us (pys ds) as ∧ sysModules ∉ as
  | _, _, _, _, .nil, _, r => by cases r; exact ⟨_, .nil, List.not_mem_nil⟩
  | _, _, _, n, .cons q qs, h, r => by
    cases r with
    | cons r1 r2 =>
      rw [List.all_cons, List.all_cons, Bool.and_eq_true, Bool.and_eq_true] at h
      obtain ⟨as, a1, a2⟩ := Rep.reads I hm (n := n) q (h.imp And.left And.left) r1
      obtain ⟨bs, b1, b2⟩ := Reps.reads I hm (n := n) qs (h.imp And.right And.right) r2
      exact ⟨_, .cons a1 b1, fun z => (List.mem_append.mp z).elim a2 b2⟩
theorem RepK.reads (I : Inv X pins σ H s) (hm : ∃ mm, X.base.Ns sysModules mm) : ∀ {kvs : List (Key × V)} {es : List (D × D)} {us : List (Key × Value)} {en : List DictEntry} {n : Nat}, RepK X.K H kvs es → (es.all fun e => flatK e.1 && shD n e.1 && shD n e.2) = true → KV kvs us → Pairs (mixKind X.prog X.w) en us →
    ∃ as bs, ReadsAll s.heap (en.map (·.key)) ((pyk es).map (·.1)) as ∧ ReadsAll s.heap (en.map (·.val)) ((pyk es).map (·.2)) bs ∧ sysModules ∉ as ∧ sysModules ∉ bs
  | _, _, _, _, _, .nil, _, r, p => by
    cases r
    cases p
    exact ⟨_, _, .nil, .nil, List.not_mem_nil, List.not_mem_nil⟩
  | _, _, _, _, n, .cons (k := k) q qs, h, r, p => by
    cases r with
    | cons r1 r2 =>
      cases p with
      | cons p1 p2 p3 =>
        rw [List.all_cons, Bool.and_eq_true, Bool.and_eq_true, Bool.and_eq_true] at h
        obtain ⟨bs1, b1, b2⟩ := Rep.reads I hm (n := n) q (.inr h.1.2) r1.2
        obtain ⟨as, bs, c1, c2, c3, c4⟩ := RepK.reads I hm (n := n) qs h.2 r2 p3
        next kv2 _ en1 _ =>
        have ka : ∃ as1, Reads s.heap en1.key (py (kD k)) as1 ∧ sysModules ∉ as1 := by
          rcases keyIs_shape p1 with ⟨i, t, h1, h2⟩ | ⟨x, t, h1, h2⟩
          · have e : k = .inl i := r1.1.trans h1
            subst e
            rw [h2]
            exact ⟨_, .int i t, List.not_mem_nil⟩
          · have e : k = .inr x := r1.1.trans h1
            subst e
            rw [h2]
            exact ⟨_, .str x t, List.not_mem_nil⟩
        obtain ⟨as1, a1, a2⟩ := ka
        exact ⟨_, _, .cons a1 c1, .cons (show Reads s.heap en1.val _ _ by rw [p2]; exact b1) c2, fun z => (List.mem_append.mp z).elim a2 c3, fun z => (List.mem_append.mp z).elim b2 c4⟩
end
end
end Dm
/-! Dm, part 9: the operations. -/
namespace Dm
open PySem PySem.Spec PyProof.Rows L2
open Evl (Ex)
variable [Lams]

/-! ### an operation by its answer over data -/
def rDD (X : Cx) (f : D → D → Option D) : R2 := fun x y H Q => ∃ (B : Hp) (dx dy d : D), Ex B H ∧ Vw X.K B H x dx ∧ Vw X.K B H y dy ∧ f dx dy = some d ∧ ∀ B' v H', Gr B B' H H' → Rep X.K B' v d → Q v H'
theorem ops_dd {X : Cx} {f : D → D → Option D} : OpS X (rDD X f) f := fun dx dy d hf B H x y e hx hy Q k => ⟨B, dx, dy, d, e, hx, hy, hf, k⟩
def rUD (X : Cx) (f : D → Option D) : V → Hp → VK → Prop := fun x H Q => ∃ (B : Hp) (dx d : D), Ex B H ∧ Vw X.K B H x dx ∧ f dx = some d ∧ ∀ B' v H', Gr B B' H H' → Rep X.K B' v d → Q v H'
theorem uns_dd {X : Cx} {f : D → Option D} : UnS X (rUD X f) f := fun dx d hf B H x e hx Q k => ⟨B, dx, d, e, hx, hf, k⟩
def rCD (X : Cx) (f : List D → Option D) : List V → Hp → VK → Prop := fun xs H Q => ∃ (B : Hp) (ds : List D) (d : D), Ex B H ∧ VwL X.K B H xs ds ∧ f ds = some d ∧ ∀ B' v H', Gr B B' H H' → Rep X.K B' v d → Q v H'
theorem cas_dd {X : Cx} {f : List D → Option D} : CaS X (rCD X f) f := fun ds d hf B H vs e hx Q k => ⟨B, ds, d, e, hx, hf, k⟩
section
variable {X : Cx} {K : PySem.W.Frag} {B H : Hp} {x : V}
theorem vw_int {i : Int} (h : Vw K B H x (.int i)) : x = .int i := by cases (show Rep K B x (.int i) from h); rfl
theorem vw_bl {i : Bool} (h : Vw K B H x (.bl i)) : x = .bl i := by cases (show Rep K B x (.bl i) from h); rfl
theorem vw_str {i : Str} (h : Vw K B H x (.str i)) : x = .str i := by cases (show Rep K B x (.str i) from h); rfl
theorem vw_non (h : Vw K B H x .non) : x = .non := by cases (show Rep K B x .non from h); rfl
theorem vw_ty {n : String} (h : Vw K B H x (.ty n)) : x = .ty n := by cases (show Rep K B x (.ty n) from h); rfl
theorem vw_cl {c : Str} (h : Vw K B H x (.cl c)) : x = .ref (He.ga K c) := by cases (show Rep K B x (.cl c) from h); rfl
theorem vwl1 {xs : List V} {d : D} (h : VwL K B H xs [d]) : ∃ x, xs = [x] ∧ Vw K B H x d := by
  match xs, h with
  | [x], h => exact ⟨x, rfl, h.1⟩
theorem vwl2 {xs : List V} {d e : D} (h : VwL K B H xs [d, e]) : ∃ x y, xs = [x, y] ∧ Vw K B H x d ∧ Vw K B H y e := by
  match xs, h with
  | [x, y], h => exact ⟨x, y, rfl, h.1, h.2.1⟩
/-- a new tuple, a new list of seen values -/
theorem lay_tup (e : Ex B H) {p : Addr} {vs : List V} {ds : List D} (hp : H p = none) (r : Reps K B vs ds) : Gr B (upd B p (.tup vs)) H (upd H p (.tup vs)) ∧ Rep K (upd B p (.tup vs)) (.ref p) (.tup ds) :=
  have g := Gr.lay (o := .tup vs) e hp
  ⟨g, .tup (.inl (.inl upd_same)) (r.mono g.b)⟩
theorem lay_lst (e : Ex B H) {p : Addr} {vs : List V} {ds : List D} (hp : H p = none) (r : Reps K B vs ds) : Gr B (upd B p (.lst vs)) H (upd H p (.lst vs)) ∧ Rep K (upd B p (.lst vs)) (.ref p) (.lst ds) :=
  have g := Gr.lay (o := .lst vs) e hp
  ⟨g, .lst (.inl (.inl upd_same)) (r.mono g.b)⟩
end

/-! ### numbers, texts, lists -/
def fAdd : D → D → Option D
  | .int i, .int j => some (.int (i + j))
  | .str x, .str y => if x.length + y.length ≤ LIM then some (.str (x ++ y)) else none
  | .lst a, .lst b => if a.length + b.length ≤ LIM then some (.lst (a ++ b)) else none
  | .tup a, .tup b => if a ≠ [] ∧ b ≠ [] ∧ a.length + b.length ≤ LIM then some (.tup (a ++ b)) else none
  | _, _ => none
def fSub : D → D → Option D
  | .int i, .int j => some (.int (i - j))
  | _, _ => none
def fMul : D → D → Option D
  | .int i, .int j => if i.natAbs.log2 + j.natAbs.log2 < 1000000 then some (.int (i * j)) else none
  | .str x, .int k => if 0 ≤ k ∧ k ≤ 100000 ∧ x.length * k.toNat ≤ LIM then some (.str ⟨(List.replicate k.toNat x.cps.toList).flatten.toArray⟩) else none
  | .lst a, .int k => if 0 ≤ k ∧ k ≤ 100000 ∧ a.length * k.toNat ≤ LIM then some (.lst (List.replicate k.toNat a).flatten) else none
  | _, _ => none
def fDiv : D → D → Option D
  | .int i, .int j => if 0 < j ∧ j.natAbs.log2 < 9000 then some (.int (i / j)) else none
  | _, _ => none
def fMod : D → D → Option D
  | .int i, .int j => if 0 < j then some (.int (i % j)) else none
  | _, _ => none
def fPow : D → D → Option D
  | .int i, .int j => if 0 ≤ j ∧ j ≤ 1000000 ∧ i.natAbs < 2 ^ 64 then some (.int (i ^ j.toNat)) else none
  | _, _ => none
theorem reps_flatten {K : PySem.W.Frag} {B : Hp} {vs : List V} {ds : List D} (r : Reps K B vs ds) : ∀ n : Nat, Reps K B (List.replicate n vs).flatten (List.replicate n ds).flatten
  | 0 => .nil
  | n + 1 => by
    rw [List.replicate_succ, List.replicate_succ, List.flatten_cons, List.flatten_cons]
    exact r.append (reps_flatten r n)
section
variable {X : Cx}
/-- list + list, of any lists -/
def rCatL (K : PySem.W.Frag) : R2 := fun x y H Q => ∃ l b xs zs, x = .ref l ∧ y = .ref b ∧ SqL K H l xs ∧ SqL K H b zs ∧ xs.length + zs.length ≤ sizeLine ∧ ∀ p, H p = none → Q (.ref p) (upd H p (.lst (xs ++ zs)))
theorem op_catL : OpR X (binaryOp .Add) (rCatL X.K) := by
  intro pins s σ H x y v u Q I rx ry h
  obtain ⟨l, b, xs, zs, rfl, rfl, hH, hB, hz, q⟩ := h
  cases rx
  cases ry
  obtain ⟨its, r, ⟨o, n, ho, hc, hdn, hd⟩, hl⟩ := I.list hH
  obtain ⟨its2, r2, ⟨o2, n2, ho2, hc2, hdn2, hd2⟩, hl2⟩ := I.list hB
  obtain ⟨cls, dd, data, sl⟩ := o
  obtain ⟨cls2, dd2, data2, sl2⟩ := o2
  simp only at hc hd hc2 hd2
  subst hc hd hc2 hd2
  have e : its.toArray ++ its2.toArray = (its ++ its2).toArray := by simp
  have hz2 : its.toArray.size + its2.toArray.size ≤ sizeLine := by rw [List.size_toArray, List.size_toArray, ← r.length, ← r2.length]; exact hz
  refine concat_meets ⟨_, ho, rfl⟩ ⟨_, ho2, rfl⟩ noFill_list_add seq_list_add PySem.F.slot_list_add PySem.F.entry_list_add (PySem.F.args_list_add_2 _ _) (list_addW l b its.toArray its2.toArray n n2 dd dd2 sl sl2 hz2) ⟨ho, ho2, ?_⟩
  rw [e]
  exact ⟨.ref _, _, I.lnew (t' := s.toks) (r.append r2) (by rw [List.length_append]; exact hz), rfl, q _ I.fresh⟩
theorem od_add : OpR X (binaryOp .Add) (rDD X fAdd) := by
  rintro pins s σ H x y v u Q I rx ry ⟨B, dx, dy, d, e, hx, hy, hf, k⟩
  cases dx with
  | int i =>
    cases dy with
    | int j =>
      cases hf; obtain rfl := vw_int hx; obtain rfl := vw_int hy
      exact op_add pins s σ H _ _ v u Q I rx ry ⟨i, j, rfl, rfl, k B _ H (Gr.refl e) (.int _)⟩
    | _ => cases hf
  | str i =>
    cases dy with
    | str j =>
      have hf' : (if i.length + j.length ≤ LIM then some (D.str (i ++ j)) else none) = some d := hf
      split at hf'
      · next hl =>
        cases hf'; obtain rfl := vw_str hx; obtain rfl := vw_str hy
        exact op_add_str pins s σ H _ _ v u Q I rx ry ⟨i, j, rfl, rfl, lim_ok hl, k B _ H (Gr.refl e) (.str _)⟩
      · cases hf'
    | _ => cases hf
  | lst a =>
    cases dy with
    | lst b =>
      have hf' : (if a.length + b.length ≤ LIM then some (D.lst (a ++ b)) else none) = some d := hf
      split at hf'
      · next hl =>
        cases hf'
        obtain ⟨l1, vs, rfl, q1, r1⟩ := hx
        obtain ⟨l2, zs, rfl, q2, r2⟩ := hy
        refine op_catL pins s σ H _ _ v u Q I rx ry ⟨l1, l2, vs, zs, rfl, rfl, q1, q2, lim_ok (by rw [r1.length, r2.length]; exact hl), fun p hp => ?_⟩
        obtain ⟨g, r⟩ := lay_lst e hp (r1.append r2)
        exact k _ _ _ g r
      · cases hf'
    | _ => cases hf
  | tup a =>
    cases dy with
    | tup b =>
      have hf' : (if a ≠ [] ∧ b ≠ [] ∧ a.length + b.length ≤ LIM then some (D.tup (a ++ b)) else none) = some d := hf
      split at hf'
      · next hl =>
        cases hf'
        obtain ⟨l1, vs, rfl, q1, r1⟩ := hx
        obtain ⟨l2, zs, rfl, q2, r2⟩ := hy
        have n1 : vs ≠ [] := fun z => by subst z; cases r1; exact hl.1 rfl
        have n2 : zs ≠ [] := fun z => by subst z; cases r2; exact hl.2.1 rfl
        refine op_catT pins s σ H _ _ v u Q I rx ry ⟨l1, l2, vs, zs, rfl, rfl, q1.1, q2.1, n1, lim_ok (by rw [r1.length, r2.length]; exact hl.2.2), fun z => absurd z n2, fun _ p hp => ?_⟩
        obtain ⟨g, r⟩ := lay_tup e hp (r1.append r2)
        exact k _ _ _ g r
      · cases hf'
    | _ => cases hf
  | _ => cases dy <;> cases hf
theorem od_sub : OpR X (binaryOp .Sub) (rDD X fSub) := by
  rintro pins s σ H x y v u Q I rx ry ⟨B, dx, dy, d, e, hx, hy, hf, k⟩
  cases dx with
  | int i =>
    cases dy with
    | int j =>
      cases hf; obtain rfl := vw_int hx; obtain rfl := vw_int hy
      exact op_sub pins s σ H _ _ v u Q I rx ry ⟨i, j, rfl, rfl, k B _ H (Gr.refl e) (.int _)⟩
    | _ => cases hf
  | _ => cases dy <;> cases hf
theorem od_div : OpR X (binaryOp .FloorDiv) (rDD X fDiv) := by
  rintro pins s σ H x y v u Q I rx ry ⟨B, dx, dy, d, e, hx, hy, hf, k⟩
  cases dx with
  | int i =>
    cases dy with
    | int j =>
      have hf' : (if 0 < j ∧ j.natAbs.log2 < 9000 then some (D.int (i / j)) else none) = some d := hf
      split at hf'
      · next hl =>
        cases hf'; obtain rfl := vw_int hx; obtain rfl := vw_int hy
        exact op_fdivW pins s σ H _ _ v u Q I rx ry ⟨i, j, rfl, rfl, hl, k B _ H (Gr.refl e) (.int _)⟩
      · cases hf'
    | _ => cases hf
  | _ => cases dy <;> cases hf
theorem od_mod : OpR X (binaryOp .Mod) (rDD X fMod) := by
  rintro pins s σ H x y v u Q I rx ry ⟨B, dx, dy, d, e, hx, hy, hf, k⟩
  cases dx with
  | int i =>
    cases dy with
    | int j =>
      have hf' : (if 0 < j then some (D.int (i % j)) else none) = some d := hf
      split at hf'
      · next hl =>
        cases hf'; obtain rfl := vw_int hx; obtain rfl := vw_int hy
        exact op_mod pins s σ H _ _ v u Q I rx ry ⟨i, j, rfl, rfl, hl, k B _ H (Gr.refl e) (.int _)⟩
      · cases hf'
    | _ => cases hf
  | _ => cases dy <;> cases hf
theorem od_pow : OpR X (binaryOp .Pow) (rDD X fPow) := by
  rintro pins s σ H x y v u Q I rx ry ⟨B, dx, dy, d, e, hx, hy, hf, k⟩
  cases dx with
  | int i =>
    cases dy with
    | int j =>
      have hf' : (if 0 ≤ j ∧ j ≤ 1000000 ∧ i.natAbs < 2 ^ 64 then some (D.int (i ^ j.toNat)) else none) = some d := hf
      split at hf'
      · next hl =>
        cases hf'; obtain rfl := vw_int hx; obtain rfl := vw_int hy
        exact op_pow pins s σ H _ _ v u Q I rx ry ⟨i, j, rfl, rfl, hl, k B _ H (Gr.refl e) (.int _)⟩
      · cases hf'
    | _ => cases hf
  | _ => cases dy <;> cases hf
theorem list_mulW (l : Addr) (items : Array Value) (n : Nat) (dd : Option Addr) (sl : Array (Option Value)) (x : Int) (u : Tok) (hc0 : ¬(!Builtin.List.listFitsIndex x) = true) (hc1 : ¬items.size * x.toNat > (2 ^ 63 - 1) / 8) (hc2 : ¬Builtin.List.listTooLong (items.size * x.toNat) = true) :
    Meets (Builtin.«list.__mul__» ⟨[.ref l, .int x u], []⟩) (fun _ R s => s.heap.get? l = some { cls := .type "list", dict := dd, data := .seq items n, slots := sl } ∧ R (.ok (.ret (Value.ref s.heap.objs.size))) { s with heap := s.heap.push { cls := Value.type "list", data := Data.seq (List.foldl (fun x1 x2 => x1 ++ x2) #[] (List.replicate (if items.isEmpty = true then 0 else x.toNat) items)) }, toks := s.toks }) :=
  .of_wp fun prog w A R s h => by
    obtain ⟨hp, g, d, tk, os⟩ := s; obtain ⟨hl, h⟩ := h
    have hsz := AutoListH.joined_fits hc2
    wp_walk using AutoSeq1.wpAny_loadPart' hl; refine wpAny_ite_false (decide_eq_false (Nat.not_lt.mpr hsz)) ?_; wp_walk using AutoSeq1.wpAny_loadPart' hl; exact ⟨_, rfl, h⟩
theorem int_rmulW (a : Int) (t : Tok) (l : Addr) (items : Array Value) (n : Nat) (dd : Option Addr) (sl : Array (Option Value)) :
    Meets (Builtin.«int.__rmul__» ⟨[.int a t, .ref l], []⟩) (fun _ R s => s.heap.get? l = some { cls := .type "list", dict := dd, data := .seq items n, slots := sl } ∧ R (.ok (.ret Value.notImplemented)) s) :=
  .of_wp fun prog w A R s h => by obtain ⟨hp, g, d, tk, os⟩ := s; obtain ⟨hl, h⟩ := h; wp_walk using AutoSeq1.wpAny_loadPart' hl; exact ⟨_, rfl, h⟩
def rRepL (K : PySem.W.Frag) : R2 := fun x y H Q => ∃ l k xs, x = .ref l ∧ y = .int k ∧ SqL K H l xs ∧ -(2 ^ 63) ≤ k ∧ k < 2 ^ 63 ∧ xs.length * k.toNat ≤ sizeLine ∧
  ∀ p, H p = none → Q (.ref p) (upd H p (.lst (List.replicate k.toNat xs).flatten))
theorem op_repL : OpR X (binaryOp .Mult) (rRepL X.K) := by
  intro pins s σ H x y v u Q I rx ry h
  obtain ⟨l, k, xs, rfl, rfl, hH, h1, h2, hz, q⟩ := h
  cases rx
  obtain ⟨t, rfl⟩ := ry
  obtain ⟨its, r, ⟨o, n, ho, hc, hdn, hd⟩, _⟩ := I.list hH
  obtain ⟨cls, dd, data, sl⟩ := o
  simp only at hc hd
  subst hc hd
  have hl : xs.length = its.length := r.length
  have hlen : its.toArray.size * k.toNat ≤ sizeLine := by rw [List.size_toArray, ← hl]; exact hz
  have hcap : ¬ its.toArray.size * k.toNat > (2 ^ 63 - 1) / 8 := by
    have : (sizeLine : Nat) ≤ (2 ^ 63 - 1) / 8 := by decide
    omega
  have hfit : ¬ (!Builtin.List.listFitsIndex k) = true := by
    rw [fitsIndex_both h1 h2]
    exact Bool.false_ne_true
  have hlong : ¬ Builtin.List.listTooLong (its.toArray.size * k.toNat) = true := by
    rw [notLongL hlen]
    exact Bool.false_ne_true
  have hnew : List.foldl (fun x1 x2 => x1 ++ x2) #[] (List.replicate (if its.toArray.isEmpty = true then 0 else k.toNat) its.toArray) = (List.replicate k.toNat its).flatten.toArray := by
    have f0 : ∀ m : Nat, List.foldl (fun x1 x2 => x1 ++ x2) #[] (List.replicate m its.toArray) = (List.replicate m its).flatten.toArray := fun m => by
      have := foldl_rep its m []
      rw [List.nil_append] at this
      exact this
    rw [f0]
    cases its with
    | nil => simp
    | cons a r' => rw [if_neg (by simp)]
  refine wpAny_binaryOp_repeat_ref (T := "list") (U := "int") (by decide) ⟨_, ho, rfl⟩ (fun s' => typeIs_int s' k t) noFill_list_mul F.fills_int_mul F.slot_int_rmul repeat_list F.slot_int_index.lookup
    (call_meets F.slot_int_rmul (typeIs_int s k t) F.entry_int_rmul (F.args_int_rmul_2 _ _) (int_rmulW k t l its.toArray n dd sl)
      ⟨ho, rfl, ⟨_, ho, rfl⟩, call_meets F.slot_list_mul ⟨_, ho, rfl⟩ F.entry_list_mul (F.args_list_mul_2 _ _) (list_mulW l its.toArray n dd sl k t hfit hcap hlong) ⟨ho, ?_⟩⟩)
  rw [hnew]
  exact ⟨.ref _, _, I.lnew (t' := s.toks) (r.rep k.toNat) (by rw [PyProof.Rows.lm_len_rep_flat, Nat.mul_comm]; exact hz), rfl, q _ I.fresh⟩
theorem foldl_repS (x : Str) : ∀ n : Nat, (List.replicate n x.cps).foldl (· ++ ·) #[] = (List.replicate n x.cps.toList).flatten.toArray := fun n => by
  have : ∀ (n : Nat) (acc : List Nat), (List.replicate n x.cps).foldl (· ++ ·) acc.toArray = (acc ++ (List.replicate n x.cps.toList).flatten).toArray := by
    intro n
    induction n with
    | zero => intro acc; simp
    | succ n ih =>
      intro acc
      rw [List.replicate_succ, List.replicate_succ, List.foldl_cons, List.flatten_cons]
      have e : acc.toArray ++ x.cps = (acc ++ x.cps.toList).toArray := by simp
      rw [e, ih, List.append_assoc]
  have h := this n []
  rw [List.nil_append] at h
  exact h
theorem od_mul : OpR X (binaryOp .Mult) (rDD X fMul) := by
  rintro pins s σ H x y v u Q I rx ry ⟨B, dx, dy, d, e, hx, hy, hf, k⟩
  cases dx with
  | int i =>
    cases dy with
    | int j =>
      have hf' : (if i.natAbs.log2 + j.natAbs.log2 < 1000000 then some (D.int (i * j)) else none) = some d := hf
      split at hf'
      · next hl =>
        cases hf'; obtain rfl := vw_int hx; obtain rfl := vw_int hy
        exact op_mulW pins s σ H _ _ v u Q I rx ry ⟨i, j, rfl, rfl, hl, k B _ H (Gr.refl e) (.int _)⟩
      · cases hf'
    | _ => cases hf
  | str z =>
    cases dy with
    | int j =>
      have hf' : (if 0 ≤ j ∧ j ≤ 100000 ∧ z.length * j.toNat ≤ LIM then some (D.str ⟨(List.replicate j.toNat z.cps.toList).flatten.toArray⟩) else none) = some d := hf
      split at hf'
      · next hl =>
        cases hf'; obtain rfl := vw_str hx; obtain rfl := vw_int hy
        obtain ⟨t, rfl⟩ := rx
        obtain ⟨t', rfl⟩ := ry
        obtain ⟨h0, h1, h2⟩ := hl
        have fin : ∀ t s', Inv X pins σ H s' → EP X pins σ Q (.str ⟨(List.replicate j.toNat z.cps.toList).flatten.toArray⟩ t) s' := fun t s' I' => ⟨.str _, H, I', ⟨_, rfl⟩, k B _ H (Gr.refl e) (.str _)⟩
        have h3 := lim_ok h2
        refine PySem.P.mul_str (by
          rw [decide_eq_false (by omega), decide_eq_false (by omega)]; rfl) (fun a1 a2 => ?_) (fun a1 a2 => ?_) ?_
        · have hs : z.length ≤ LIM := by
            have : 1 ≤ j.toNat := by omega
            exact Nat.le_trans (Nat.le_mul_of_pos_right _ this) h2
          have hL : LIM = 1000000 := rfl
          have : (9223372036854775807 : Int) / 100000 ≤ (2 ^ 63 - 1) / j := by
            have e8 : (2 ^ 63 - 1 : Int) = 9223372036854775807 := by decide
            rw [e8]
            refine (Int.le_ediv_iff_mul_le (by omega)).mpr ?_
            have e9 : (9223372036854775807 : Int) / 100000 = 92233720368547 := by decide
            rw [e9]
            have := Int.mul_le_mul_of_nonneg_left h1 (show (0 : Int) ≤ 92233720368547 by decide)
            omega
          have e5 : (9223372036854775807 : Int) / 100000 = 92233720368547 := by decide
          omega
        · unfold Builtin.Str.tooLong
          exact decide_eq_false (by omega)
        · by_cases c1 : j < 1
          · have : j = 0 := by omega
            subst this
            rw [if_pos (by decide)]
            exact ⟨by decide, fin _ _ (I.tok _)⟩
          · rw [if_neg c1]
            by_cases c2 : (j == 1 || z.length == 0) = true
            · rw [if_pos c2]
              have e6 : (⟨(List.replicate j.toNat z.cps.toList).flatten.toArray⟩ : Str) = z := by
                rw [Bool.or_eq_true, beq_iff_eq, beq_iff_eq] at c2
                rcases c2 with rfl | c2
                · simp
                · have : z.cps.toList = [] := by
                    have hz : z.cps.size = 0 := c2
                    simpa using hz
                  have e7 : z = ⟨#[]⟩ := by
                    obtain ⟨c⟩ := z
                    simp at this
                    rw [this]
                  rw [this, e7]
                  simp
              have := fin t s I
              rw [e6] at this
              exact this
            · rw [if_neg c2, foldl_repS]
              refine ⟨?_, fin _ _ (I.tok _)⟩
              show (List.replicate j.toNat z.cps.toList).flatten.toArray.size ≤ sizeLine
              rw [List.size_toArray, List.length_flatten, List.map_replicate, List.sum_replicate_nat]
              have : z.cps.toList.length = z.length := by simp [Str.length]
              rw [this, Nat.mul_comm]
              exact h3
      · cases hf'
    | _ => cases hf
  | lst a =>
    cases dy with
    | int j =>
      have hf' : (if 0 ≤ j ∧ j ≤ 100000 ∧ a.length * j.toNat ≤ LIM then some (D.lst (List.replicate j.toNat a).flatten) else none) = some d := hf
      split at hf'
      · next hl =>
        cases hf'; obtain rfl := vw_int hy
        obtain ⟨l1, vs, rfl, q1, r1⟩ := hx
        refine op_repL pins s σ H _ _ v u Q I rx ry ⟨l1, j, vs, rfl, rfl, q1, by omega, by omega, lim_ok (by rw [r1.length]; exact hl.2.2), fun p hp => ?_⟩
        obtain ⟨g, r⟩ := lay_lst e hp (reps_flatten r1 j.toNat)
        exact k _ _ _ g r
      · cases hf'
    | _ => cases hf
  | _ => cases dy <;> cases hf
end
end Dm
/-! Dm, part 10: comparisons, subscripts, built-in calls. -/
namespace Dm
open PySem PySem.Spec PyProof.Rows L2
open Evl (Ex)
variable [Lams]
/-- what the readings of data ask of a place -/
structure Rm (X : Cx) : Prop where
  un : X.A.units + 200 < cLine
  sm : ∃ mm, X.base.Ns sysModules mm
  gd : X.A.guards = some []
  calm : X.calm = true

def fEq : D → D → Option D := fun x y => if plD 60 x = true ∧ plD 60 y = true then some (.bl (PyData.eqv (py x) (py y))) else none
def fNe : D → D → Option D := fun x y => if plD 60 x = true ∧ plD 60 y = true then some (.bl (!PyData.eqv (py x) (py y))) else none
def ltS (x y : Str) : Bool := decide (x.cps.toList < y.cps.toList)
def fLt : D → D → Option D
  | .int i, .int j => some (.bl (decide (i < j)))
  | .str x, .str y => some (.bl (ltS x y))
  | _, _ => none
def fLe : D → D → Option D
  | .int i, .int j => some (.bl (decide (i ≤ j)))
  | _, _ => none
def fGt : D → D → Option D
  | .int i, .int j => some (.bl (decide (j < i)))
  | _, _ => none
def fGe : D → D → Option D
  | .int i, .int j => some (.bl (decide (j ≤ i)))
  | _, _ => none
/-- x within the text y -/
def inS (x y : Str) : Bool := !(Builtin.Str.occurrences y x 0 y.length 1).isEmpty
def keyD : D → Option Key
  | .int i => some (.inl i)
  | .str x => some (.inr x)
  | _ => none
/-- what a dict of ints and texts holds -/
def dGet (es : List (D × D)) (k : Key) : Option D := (es.find? fun e => match keyD e.1 with
  | some k' => decide (k' = k)
  | none => false).map (·.2)
def isKD : D → Bool
  | .int _ => true
  | .str _ => true
  | _ => false
def inD (x : D) : D → Option Bool
  | .str y => (match x with
    | .str z => some (inS z y)
    | _ => none)
  | .lst ds => if plD 60 x = true ∧ ds.all (plD 59) = true then some (ds.any fun y => PyData.eqv (py y) (py x)) else none
  | .tup ds => if plD 60 x = true ∧ ds.all (plD 59) = true then some (ds.any fun y => PyData.eqv (py y) (py x)) else none
  | .dct es => (match keyD x with
    | some k => if es.all (fun e => isKD e.1) then some (dGet es k).isSome else none
    | none => none)
  | _ => none
def fIn : D → D → Option D := fun x y => (inD x y).map .bl
def fNotIn : D → D → Option D := fun x y => (inD x y).map fun b => .bl (!b)
def isNo : D → Bool
  | .non => true
  | _ => false
def isB : D → Option Bool
  | .bl b => some b
  | _ => none
def isD : D → D → Option Bool
  | x, .non => some (isNo x)
  | x, .bl b => some (decide (isB x = some b))
  | _, _ => none
def fIs : D → D → Option D := fun x y => (isD x y).map .bl
def fIsNot : D → D → Option D := fun x y => (isD x y).map fun b => .bl (!b)
section
variable {X : Cx}
theorem two_reads {pins : List (Addr × Obj)} {σ : L2.St} {H B : Hp} {s : Shared} {x y : V} {dx dy : D} {v u : Value} (R : Rm X) (I : Inv X pins σ H s) (e : Ex B H) (hx : Vw X.K B H x dx) (hy : Vw X.K B H y dy) (rx : RelV x v) (ry : RelV y u)
    (px : plD 60 dx = true) (py' : plD 60 dy = true) : (∃ as, Reads s.heap v (py dx) as) ∧ (∃ bs, Reads s.heap u (py dy) bs) ∧ (py dx).plain = true ∧ (py dy).plain = true ∧ X.A.units + min (py dx).depth (py dy).depth < cLine := by
  obtain ⟨as, r1, _⟩ := (hx.rep e).reads I R.sm (n := 60) (.inl px) rx
  obtain ⟨bs, r2, _⟩ := (hy.rep e).reads I R.sm (n := 60) (.inl py') ry
  obtain ⟨p1, d1⟩ := plD_ok 60 dx px
  obtain ⟨p2, d2⟩ := plD_ok 60 dy py'
  have := R.un
  exact ⟨⟨as, r1⟩, ⟨bs, r2⟩, p1, p2, by omega⟩
theorem od_eq (R : Rm X) : OpR X (compareOp .Eq) (rDD X fEq) := by
  rintro pins s σ H x y v u Q I rx ry ⟨B, dx, dy, d, e, hx, hy, hf, k⟩
  unfold fEq at hf
  split at hf
  · next hc =>
    cases hf
    obtain ⟨⟨as, r1⟩, ⟨bs, r2⟩, p1, p2, hu⟩ := two_reads R I e hx hy rx ry hc.1 hc.2
    exact SeqAt.eq_plain r1 r2 p1 p2 hu ⟨.bl _, H, I, rfl, k B _ H (Gr.refl e) (.bl _)⟩
  · cases hf
theorem od_ne (R : Rm X) : OpR X (compareOp .NotEq) (rDD X fNe) := by
  rintro pins s σ H x y v u Q I rx ry ⟨B, dx, dy, d, e, hx, hy, hf, k⟩
  unfold fNe at hf
  split at hf
  · next hc =>
    cases hf
    obtain ⟨⟨as, r1⟩, ⟨bs, r2⟩, p1, p2, hu⟩ := two_reads R I e hx hy rx ry hc.1 hc.2
    exact SeqAt.ne_plain r1 r2 p1 p2 hu ⟨.bl _, H, I, rfl, k B _ H (Gr.refl e) (.bl _)⟩
  · cases hf
theorem od_lt : OpR X (compareOp .Lt) (rDD X fLt) := by
  rintro pins s σ H x y v u Q I rx ry ⟨B, dx, dy, d, e, hx, hy, hf, k⟩
  cases dx with
  | int i =>
    cases dy with
    | int j =>
      cases hf; obtain rfl := vw_int hx; obtain rfl := vw_int hy
      exact op_lt pins s σ H _ _ v u Q I rx ry ⟨i, j, rfl, rfl, k B _ H (Gr.refl e) (.bl _)⟩
    | _ => cases hf
  | str i =>
    cases dy with
    | str j =>
      cases hf; obtain rfl := vw_str hx; obtain rfl := vw_str hy
      exact op_lt_str pins s σ H _ _ v u Q I rx ry ⟨i, j, rfl, rfl, k B _ H (Gr.refl e) (.bl _)⟩
    | _ => cases hf
  | _ => cases dy <;> cases hf
theorem od_le : OpR X (compareOp .LtE) (rDD X fLe) := by
  rintro pins s σ H x y v u Q I rx ry ⟨B, dx, dy, d, e, hx, hy, hf, k⟩
  cases dx with
  | int i =>
    cases dy with
    | int j =>
      cases hf; obtain rfl := vw_int hx; obtain rfl := vw_int hy
      exact op_le pins s σ H _ _ v u Q I rx ry ⟨i, j, rfl, rfl, k B _ H (Gr.refl e) (.bl _)⟩
    | _ => cases hf
  | _ => cases dy <;> cases hf
theorem od_gt : OpR X (compareOp .Gt) (rDD X fGt) := by
  rintro pins s σ H x y v u Q I rx ry ⟨B, dx, dy, d, e, hx, hy, hf, k⟩
  cases dx with
  | int i =>
    cases dy with
    | int j =>
      cases hf; obtain rfl := vw_int hx; obtain rfl := vw_int hy
      exact op_gt pins s σ H _ _ v u Q I rx ry ⟨i, j, rfl, rfl, k B _ H (Gr.refl e) (.bl _)⟩
    | _ => cases hf
  | _ => cases dy <;> cases hf
theorem od_ge : OpR X (compareOp .GtE) (rDD X fGe) := by
  rintro pins s σ H x y v u Q I rx ry ⟨B, dx, dy, d, e, hx, hy, hf, k⟩
  cases dx with
  | int i =>
    cases dy with
    | int j =>
      cases hf; obtain rfl := vw_int hx; obtain rfl := vw_int hy
      exact op_ge pins s σ H _ _ v u Q I rx ry ⟨i, j, rfl, rfl, k B _ H (Gr.refl e) (.bl _)⟩
    | _ => cases hf
  | _ => cases dy <;> cases hf
theorem keyD_val {K : PySem.W.Frag} {B : Hp} {x : V} {d : D} {k : Key} (h : keyD d = some k) (r : Rep K B x d) : x = kV k := by
  cases d with
  | int i => cases h; cases r; rfl
  | str i => cases h; cases r; rfl
  | _ => cases h
theorem keyD_kD (k : Key) : keyD (kD k) = some k := by cases k <;> rfl
theorem dGet_rep {K : PySem.W.Frag} {B : Hp} {k : Key} : ∀ {kvs : List (Key × V)} {es : List (D × D)}, RepK K B kvs es → (dGet es k = none ∧ valV kvs k = none) ∨ ∃ d v, dGet es k = some d ∧ valV kvs k = some v ∧ Rep K B v d
  | _, _, .nil => .inl ⟨rfl, rfl⟩
  | _, _, .cons (k := k') (v := v) (d := d) (r := r) (es := es) h t => by
    unfold dGet valV
    rw [List.find?_cons, List.find?_cons]
    by_cases e : k' = k
    · subst e
      have e1 : (match keyD (kD k', d).1 with
        | some k'' => decide (k'' = k')
        | none => false) = true := by rw [keyD_kD]; exact decide_eq_true rfl
      rw [e1]
      simp only [decide_true]
      exact .inr ⟨d, v, rfl, rfl, h⟩
    · have e1 : (match keyD (kD k', d).1 with
        | some k'' => decide (k'' = k)
        | none => false) = false := by rw [keyD_kD]; exact decide_eq_false e
      have e2 : decide ((k', v).1 = k) = false := decide_eq_false e
      rw [e1, e2]
      exact dGet_rep t
/-- a dict seen, asked at a key -/
theorem vw_get {B H : Hp} {x y : V} {es : List (D × D)} {dk : D} {k : Key} (e : Ex B H) (hx : Vw X.K B H x (.dct es)) (hy : Vw X.K B H y dk) (hk : keyD dk = some k) (ha : es.all (fun e => isKD e.1) = true) :
    ∃ a o, x = .ref a ∧ DGet H a y o ∧ ((dGet es k = none ∧ o = none) ∨ ∃ d v, dGet es k = some d ∧ o = some v ∧ Rep X.K B v d) := by
  have ry : y = kV k := keyD_val hk (hy.rep e)
  obtain ⟨a, rfl, ⟨kvs, q, r⟩ | ⟨kvs, q, r⟩⟩ := hx
  · refine ⟨a, valV kvs k, rfl, .inl ⟨kvs, k, q, ry, rfl⟩, ?_⟩
    rcases dGet_rep (k := k) r with ⟨h1, h2⟩ | ⟨d, v, h1, h2, h3⟩
    · exact .inl ⟨h1, h2⟩
    · exact .inr ⟨d, v, h1, h2, h3⟩
  · cases r with
    | one _ => rw [List.all_cons] at ha; cases ha
    | cons _ _ => rw [List.all_cons] at ha; cases ha
theorem pys_any {x : D} : ∀ ds : List D, ((pys ds).any fun y => PyData.eqv y (py x)) = ds.any fun y => PyData.eqv (py y) (py x)
  | [] => rfl
  | d :: r => by
    show (PyData.eqv (py d) (py x) || ((pys r).any fun y => PyData.eqv y (py x))) = _
    rw [pys_any r, List.any_cons]
theorem in_core (R : Rm X) {pins : List (Addr × Obj)} {σ : L2.St} {H B : Hp} {s : Shared} {x y : V} {dx dy : D} {v u : Value} {b : Bool} {Q : VK} (I : Inv X pins σ H s) (e : Ex B H) (hx : Vw X.K B H x dx) (hy : Vw X.K B H y dy) (rx : RelV x v) (ry : RelV y u) (hf : inD dx dy = some b) :
    (Q (.bl b) H → wpAny (model X.prog X.w) X.A (compareOp .In v u) (EP X pins σ Q) X.xe s) ∧ (Q (.bl (!b)) H → wpAny (model X.prog X.w) X.A (compareOp .NotIn v u) (EP X pins σ Q) X.xe s) := by
  have un := R.un
  have seq : ∀ (ds : List D) (hc : plD 60 dx = true ∧ ds.all (plD 59) = true), X.A.units + 1 + min (PyData.depthAll (pys ds)) (py dx).depth < cLine ∧ PyData.plainAll (pys ds) = true ∧ (py dx).plain = true := fun ds hc => by
    obtain ⟨p1, d1⟩ := plD_ok 60 dx hc.1
    obtain ⟨p2, d2⟩ := plD_ok 60 (.lst ds) hc.2
    exact ⟨by omega, p2, p1⟩
  have fin : ∀ {c : Bool} {s' : Shared}, Inv X pins σ H s' → Q (.bl c) H → EP X pins σ Q (.bool c) s' := fun I' q => ⟨.bl _, H, I', rfl, q⟩
  cases dy with
  | str z =>
    cases dx with
    | str w' =>
      cases hf; obtain rfl := vw_str hx; obtain rfl := vw_str hy
      exact ⟨fun q => op_in_str pins s σ H _ _ v u Q I rx ry ⟨w', z, rfl, rfl, q⟩, fun q => op_notin_str pins s σ H _ _ v u Q I rx ry ⟨w', z, rfl, rfl, q⟩⟩
    | _ => cases hf
  | lst ds =>
    have hf' : (if plD 60 dx = true ∧ ds.all (plD 59) = true then some (ds.any fun y => PyData.eqv (py y) (py dx)) else none) = some b := hf
    split at hf'
    · next hc =>
      cases hf'
      obtain ⟨u1, p1, p2⟩ := seq ds hc
      obtain ⟨as, r1, _⟩ := (hx.rep e).reads I R.sm (n := 60) (.inl hc.1) rx
      obtain ⟨bs, r2, _⟩ := (hy.rep e).reads I R.sm (n := 60) (.inl hc.2) ry
      rw [← pys_any]
      exact ⟨fun q => SeqAt.in_list_data r2 r1 p1 p2 u1 (fin I q), fun q => SeqAt.notIn_list_data r2 r1 p1 p2 u1 (fin I q)⟩
    · cases hf'
  | tup ds =>
    have hf' : (if plD 60 dx = true ∧ ds.all (plD 59) = true then some (ds.any fun y => PyData.eqv (py y) (py dx)) else none) = some b := hf
    split at hf'
    · next hc =>
      cases hf'
      obtain ⟨u1, p1, p2⟩ := seq ds hc
      obtain ⟨as, r1, _⟩ := (hx.rep e).reads I R.sm (n := 60) (.inl hc.1) rx
      obtain ⟨bs, r2, _⟩ := (hy.rep e).reads I R.sm (n := 60) (.inl hc.2) ry
      rw [← pys_any]
      exact ⟨fun q => SeqAt.in_tuple_data r2 r1 p1 p2 u1 (fin I q), fun q => SeqAt.notIn_tuple_data r2 r1 p1 p2 u1 (fin I q)⟩
    · cases hf'
  | dct es =>
    have hf' : (match keyD dx with
      | some k => if es.all (fun e => isKD e.1) then some (dGet es k).isSome else none
      | none => none) = some b := hf
    split at hf'
    · next k hk =>
      split at hf'
      · next ha =>
        cases hf'
        obtain ⟨a, o, rfl, g, ho⟩ := vw_get e hy hx hk ha
        cases (show u = Value.ref a from ry)
        have eo : (dGet es k).isSome = o.isSome := by
          rcases ho with ⟨h1, h2⟩ | ⟨d, v, h1, h2, _⟩ <;> rw [h1, h2] <;> rfl
        rw [eo]
        exact ⟨fun q => d_in (by omega) I g rx fun s' I' => fin I' q, fun q => d_notIn (by omega) I g rx fun s' I' => fin I' q⟩
      · cases hf'
    · cases hf'
  | _ => cases hf
theorem od_in (R : Rm X) : OpR X (compareOp .In) (rDD X fIn) := by
  rintro pins s σ H x y v u Q I rx ry ⟨B, dx, dy, d, e, hx, hy, hf, k⟩
  unfold fIn at hf
  obtain ⟨b, hb, rfl⟩ := Option.map_eq_some_iff.mp hf
  exact (in_core R I e hx hy rx ry hb).1 (k B _ H (Gr.refl e) (.bl _))
theorem od_notIn (R : Rm X) : OpR X (compareOp .NotIn) (rDD X fNotIn) := by
  rintro pins s σ H x y v u Q I rx ry ⟨B, dx, dy, d, e, hx, hy, hf, k⟩
  unfold fNotIn at hf
  obtain ⟨b, hb, rfl⟩ := Option.map_eq_some_iff.mp hf
  exact (in_core R I e hx hy rx ry hb).2 (k B _ H (Gr.refl e) (.bl _))
/-- a value of data: its class, whatever it is -/
theorem vw_is {B H : Hp} {x : V} {d : D} {v : Value} (e : Ex B H) (hx : Vw X.K B H x d) (rx : RelV x v) : (∀ b, plainIs v (.bool b) = true ∧ ((v == .bool b) = decide (isB d = some b))) ∧ ((v == .none) = isNo d) ∧ plainIs v .none = true := by
  have h := hx.rep e
  have ref : ∀ {a : Addr}, x = .ref a → isB d = none → isNo d = false → (∀ b, plainIs v (.bool b) = true ∧ ((v == .bool b) = decide (isB d = some b))) ∧ ((v == .none) = isNo d) ∧ plainIs v .none = true := fun {a} ea h1 h2 => by
    subst ea
    cases (show v = Value.ref a from rx)
    exact ⟨fun b => ⟨rfl, by rw [h1]; exact beq_eq_false_iff_ne.mpr (fun z => by cases z)⟩, by rw [h2]; exact beq_eq_false_iff_ne.mpr (fun z => by cases z), rfl⟩
  cases h with
  | non => cases (show v = Value.none from rx); exact ⟨fun b => ⟨rfl, beq_eq_false_iff_ne.mpr (fun z => by cases z)⟩, rfl, rfl⟩
  | bl c =>
    cases (show v = Value.bool c from rx)
    refine ⟨fun b => ⟨rfl, ?_⟩, beq_eq_false_iff_ne.mpr (fun z => by cases z), rfl⟩
    show (Value.bool c == Value.bool b) = decide (some c = some b)
    by_cases z : c = b
    · subst z; simp
    · rw [decide_eq_false (fun w => z (Option.some.inj w))]
      exact beq_eq_false_iff_ne.mpr (fun w => z (Value.bool.inj w))
  | int i => obtain ⟨t, rfl⟩ := rx; exact ⟨fun b => ⟨rfl, beq_eq_false_iff_ne.mpr (fun z => by cases z)⟩, beq_eq_false_iff_ne.mpr (fun z => by cases z), rfl⟩
  | str i => obtain ⟨t, rfl⟩ := rx; exact ⟨fun b => ⟨rfl, beq_eq_false_iff_ne.mpr (fun z => by cases z)⟩, beq_eq_false_iff_ne.mpr (fun z => by cases z), rfl⟩
  | ty n => cases (show v = Value.type n from rx); exact ⟨fun b => ⟨rfl, beq_eq_false_iff_ne.mpr (fun z => by cases z)⟩, beq_eq_false_iff_ne.mpr (fun z => by cases z), rfl⟩
  | cl c => exact ref rfl rfl rfl
  | tup _ _ => exact ref rfl rfl rfl
  | lst _ _ => exact ref rfl rfl rfl
  | dct _ _ => exact ref rfl rfl rfl
  | dctT _ _ => exact ref rfl rfl rfl
  | obj _ _ => exact ref rfl rfl rfl
  | exc0 _ => exact ref rfl rfl rfl
  | exc _ _ _ => exact ref rfl rfl rfl
theorem od_is : OpR X (compareOp .Is) (rDD X fIs) := by
  rintro pins s σ H x y v u Q I rx ry ⟨B, dx, dy, d, e, hx, hy, hf, k⟩
  obtain ⟨b, hb, rfl⟩ := Option.map_eq_some_iff.mp hf
  obtain ⟨h1, h2, h3⟩ := vw_is e hx rx
  have q := k B _ H (Gr.refl e) (.bl b)
  cases dy with
  | non =>
    cases hb; obtain rfl := vw_non hy
    cases (show u = Value.none from ry)
    exact wpAny_is_plain h3 (by rw [h2]; exact ⟨.bl _, H, I, rfl, q⟩)
  | bl c =>
    cases hb; obtain rfl := vw_bl hy
    cases (show u = Value.bool c from ry)
    exact wpAny_is_plain (h1 c).1 (by rw [(h1 c).2]; exact ⟨.bl _, H, I, rfl, q⟩)
  | _ => cases hb
theorem od_isnot : OpR X (compareOp .IsNot) (rDD X fIsNot) := by
  rintro pins s σ H x y v u Q I rx ry ⟨B, dx, dy, d, e, hx, hy, hf, k⟩
  obtain ⟨b, hb, rfl⟩ := Option.map_eq_some_iff.mp hf
  obtain ⟨h1, h2, h3⟩ := vw_is e hx rx
  have q := k B _ H (Gr.refl e) (.bl (!b))
  cases dy with
  | non =>
    cases hb; obtain rfl := vw_non hy
    cases (show u = Value.none from ry)
    exact wpAny_isNot_plain h3 (by rw [h2]; exact ⟨.bl _, H, I, rfl, q⟩)
  | bl c =>
    cases hb; obtain rfl := vw_bl hy
    cases (show u = Value.bool c from ry)
    exact wpAny_isNot_plain (h1 c).1 (by rw [(h1 c).2]; exact ⟨.bl _, H, I, rfl, q⟩)
  | _ => cases hb

/-! ### subscripts, the sign -/
def fIx : D → D → Option D
  | .lst ds, .int i => atI ds i
  | .tup ds, .int i => atI ds i
  | .str z, .int i => if z.length ≤ LIM then (atI z.cps.toList i).map fun c => .str ⟨#[c]⟩ else none
  | .dct es, k => (match keyD k with
    | some k => if es.all (fun e => isKD e.1) then dGet es k else none
    | none => none)
  | _, _ => none
theorem atI_rep {K : PySem.W.Frag} {B : Hp} {vs : List V} {ds : List D} {i : Int} {d : D} (r : Reps K B vs ds) (h : atI ds i = some d) : ∃ v, atI vs i = some v ∧ Rep K B v d := by
  unfold atI at h ⊢
  rw [r.length]
  cases e : ixN ds.length i with
  | none => rw [e] at h; cases h
  | some j =>
    rw [e] at h
    exact r.get h
theorem od_ix (R : Rm X) : IxR X (rDD X fIx) := by
  rintro value slice pins s σ H x y v u Q I rx ry ⟨B, dx, dy, d, e, hx, hy, hf, k⟩ hs
  cases dx with
  | lst ds =>
    cases dy with
    | int i =>
      obtain ⟨a, vs, rfl, q, r⟩ := hx
      obtain rfl := vw_int hy
      obtain ⟨z, hz, rz⟩ := atI_rep r (show atI ds i = some d from hf)
      exact ix_list value slice pins s σ H _ _ v u Q I rx ry ⟨a, vs, i, z, rfl, rfl, q, hz, k B z H (Gr.refl e) rz⟩ hs
    | _ => cases hf
  | tup ds =>
    cases dy with
    | int i =>
      obtain ⟨a, vs, rfl, q, r⟩ := hx
      obtain rfl := vw_int hy
      obtain ⟨z, hz, rz⟩ := atI_rep r (show atI ds i = some d from hf)
      exact ix_tup value slice pins s σ H _ _ v u Q I rx ry ⟨a, vs, i, z, rfl, rfl, q.1, hz, k B z H (Gr.refl e) rz⟩ hs
    | _ => cases hf
  | str z =>
    cases dy with
    | int i =>
      have hf' : (if z.length ≤ LIM then (atI z.cps.toList i).map fun c => D.str ⟨#[c]⟩ else none) = some d := hf
      split at hf'
      · next hl =>
        obtain ⟨c, hc, rfl⟩ := Option.map_eq_some_iff.mp hf'
        obtain rfl := vw_str hx; obtain rfl := vw_int hy
        exact ix_str value slice pins s σ H _ _ v u Q I rx ry ⟨z, i, c, rfl, rfl, lim_ok hl, hc, k B _ H (Gr.refl e) (.str _)⟩ hs
      · cases hf'
    | _ => cases hf
  | dct es =>
    have hf' : (match keyD dy with
      | some k => if es.all (fun e => isKD e.1) then dGet es k else none
      | none => none) = some d := by cases dy <;> exact hf
    split at hf'
    · next kk hk =>
      split at hf'
      · next ha =>
        obtain ⟨a, o, rfl, g, ho⟩ := vw_get e hx hy hk ha
        cases (show v = Value.ref a from rx)
        rcases ho with ⟨h1, h2⟩ | ⟨d', z, h1, h2, h3⟩
        · rw [h1] at hf'; cases hf'
        · rw [h1] at hf'
          cases hf'
          subst h2
          have un := R.un
          exact tail_any (dict_typeIs I g) PySem.F.slot_dict_getitem.lookup (d_getItem (by omega) I g ry fun w' s' I' rw' => ⟨z, H, I', rw', k B z H (Gr.refl e) (h3.mono (Ex.refl B))⟩) hs
      · cases hf'
    · cases hf'
  | _ => cases dy <;> cases hf
def fNeg : D → Option D
  | .int i => some (.int (-i))
  | _ => none
theorem ud_neg : UnR X (unaryOp .USub) (rUD X fNeg) := by
  rintro pins s σ H x v Q I rx ⟨B, dx, d, e, hx, hf, k⟩
  cases dx with
  | int i =>
    cases hf; obtain rfl := vw_int hx
    exact un_neg pins s σ H _ v Q I rx ⟨i, rfl, k B _ H (Gr.refl e) (.int _)⟩
  | _ => cases hf
theorem plainIx_of {b : Expr} (h : ∀ o i, subscripted b false o i = operate [o, i] (getItem o i)) : PlainIx b := h
end

/-! ### built-in calls -/
def fLen : List D → Option D
  | [.str z] => if z.length ≤ LIM then some (.int z.length) else none
  | [.lst ds] => some (.int ds.length)
  | [.tup ds] => some (.int ds.length)
  | _ => none
def fAbs : List D → Option D
  | [.int i] => some (.int (if i < 0 then -i else i))
  | _ => none
def fMax : List D → Option D
  | [.int i, .int j] => some (.int (if j > i then j else i))
  | _ => none
def fMin : List D → Option D
  | [.int i, .int j] => some (.int (if j < i then j else i))
  | _ => none
def fInt : List D → Option D
  | [.int i] => some (.int i)
  | [.bl b] => some (.int (if b then 1 else 0))
  | _ => none
def fDivmod : List D → Option D
  | [.int i, .int j] => if 0 < j ∧ j.natAbs.log2 < 9000 then some (.tup [.int (i / j), .int (i % j)]) else none
  | _ => none
def bls : List D → Option (List Bool)
  | [] => some []
  | d :: r => match isB d, bls r with
    | some b, some bs => some (b :: bs)
    | _, _ => none
def fAll : List D → Option D
  | [.lst ds] => (bls ds).map fun bs => .bl (bs.all id)
  | _ => none
def fAny : List D → Option D
  | [.lst ds] => (bls ds).map fun bs => .bl (bs.any id)
  | _ => none
/-- the class of data -/
def tyN : D → Option String
  | .non => some "NoneType"
  | .bl _ => some "bool"
  | .int _ => some "int"
  | .str _ => some "str"
  | .tup _ => some "tuple"
  | .lst _ => some "list"
  | .dct _ => some "dict"
  | _ => none
def isiC (t : String) : D → Option Bool
  | .ty n => kitB t n
  | _ => none
def isiA (t : String) : List D → Option Bool
  | [] => some false
  | c :: r => match isiC t c with
    | some true => some true
    | some false => isiA t r
    | none => none
def fIsi : List D → Option D
  | [d, .ty n] => (tyN d).bind fun t => (kitB t n).map .bl
  | [d, .tup cs] => (tyN d).bind fun t => (isiA t cs).map .bl
  | _ => none
def fRepr : List D → Option D
  | [d] => if shD 60 d = true ∧ wgt d ≤ LIM then some (.str (py d).shown) else none
  | _ => none
def fList : List D → Option D
  | [.lst ds] => some (.lst ds)
  | [.tup ds] => some (.lst ds)
  | _ => none
def fTuple : List D → Option D
  | [.lst ds] => some (.tup ds)
  | [.tup ds] => some (.tup ds)
  | _ => none
section
variable {X : Cx}
theorem cd_len : CallR X (.builtin "len") (rCD X fLen) := by
  rintro pins s σ H xs us Q I rs ⟨B, ds, d, e, hx, hf, k⟩
  unfold fLen at hf
  split at hf
  · next z =>
    split at hf
    · next hl =>
      cases hf
      obtain ⟨x, rfl, hv⟩ := vwl1 hx
      obtain rfl := vw_str hv
      exact call_len_str pins s σ H _ us Q I rs ⟨z, rfl, lim_ok hl, k B _ H (Gr.refl e) (.int _)⟩
    · cases hf
  · next zs =>
    cases hf
    obtain ⟨x, rfl, a, vs, rfl, q, r⟩ := vwl1 hx
    exact call_len_seq pins s σ H _ us Q I rs ⟨a, vs, rfl, .inl q, by rw [r.length]; exact k B _ H (Gr.refl e) (.int _)⟩
  · next zs =>
    cases hf
    obtain ⟨x, rfl, a, vs, rfl, q, r⟩ := vwl1 hx
    exact call_len_seq pins s σ H _ us Q I rs ⟨a, vs, rfl, .inr q.1, by rw [r.length]; exact k B _ H (Gr.refl e) (.int _)⟩
  · cases hf
theorem cd_abs : CallR X (.builtin "abs") (rCD X fAbs) := by
  rintro pins s σ H xs us Q I rs ⟨B, ds, d, e, hx, hf, k⟩
  unfold fAbs at hf
  split at hf
  · next i =>
    cases hf
    obtain ⟨x, rfl, hv⟩ := vwl1 hx
    obtain rfl := vw_int hv
    exact call_abs pins s σ H _ us Q I rs ⟨i, rfl, k B _ H (Gr.refl e) (.int _)⟩
  · cases hf
theorem cd_max (R : Rm X) : CallR X (.builtin "max") (rCD X fMax) := by
  rintro pins s σ H xs us Q I rs ⟨B, ds, d, e, hx, hf, k⟩
  unfold fMax at hf
  split at hf
  · next i j =>
    cases hf
    obtain ⟨x, y, rfl, hv, hy⟩ := vwl2 hx
    obtain rfl := vw_int hv; obtain rfl := vw_int hy
    exact call_max2 R.calm pins s σ H _ us Q I rs ⟨i, j, rfl, k B _ H (Gr.refl e) (.int _)⟩
  · cases hf
theorem cd_min (R : Rm X) : CallR X (.builtin "min") (rCD X fMin) := by
  rintro pins s σ H xs us Q I rs ⟨B, ds, d, e, hx, hf, k⟩
  unfold fMin at hf
  split at hf
  · next i j =>
    cases hf
    obtain ⟨x, y, rfl, hv, hy⟩ := vwl2 hx
    obtain rfl := vw_int hv; obtain rfl := vw_int hy
    exact call_min2 R.calm pins s σ H _ us Q I rs ⟨i, j, rfl, k B _ H (Gr.refl e) (.int _)⟩
  · cases hf
theorem cd_int : CallR X (.type "int") (rCD X fInt) := by
  rintro pins s σ H xs us Q I rs ⟨B, ds, d, e, hx, hf, k⟩
  unfold fInt at hf
  split at hf
  · next i =>
    cases hf
    obtain ⟨x, rfl, hv⟩ := vwl1 hx
    obtain rfl := vw_int hv
    exact call_int1 pins s σ H _ us Q I rs (.inl ⟨i, rfl, k B _ H (Gr.refl e) (.int _)⟩)
  · next b =>
    cases hf
    obtain ⟨x, rfl, hv⟩ := vwl1 hx
    obtain rfl := vw_bl hv
    exact call_int1 pins s σ H _ us Q I rs (.inr ⟨b, rfl, k B _ H (Gr.refl e) (.int _)⟩)
  · cases hf
theorem cd_divmod : CallR X (.builtin "divmod") (rCD X fDivmod) := by
  rintro pins s σ H xs us Q I rs ⟨B, ds, d, e, hx, hf, k⟩
  unfold fDivmod at hf
  split at hf
  · next i j =>
    split at hf
    · next hl =>
      cases hf
      obtain ⟨x, y, rfl, hv, hy⟩ := vwl2 hx
      obtain rfl := vw_int hv; obtain rfl := vw_int hy
      obtain ⟨h1, h2⟩ := hl
      have hp : Builtin.divisionGoesByPylong i j = false := PyProof.noPylong_of_log2 h2
      refine call_divmodW pins s σ H _ us Q I rs ⟨i, j, rfl, ⟨h1, hp⟩, fun p hp => ?_⟩
      obtain ⟨g, r⟩ := lay_tup (K := X.K) e hp (.cons (.int (i / j)) (.cons (.int (i % j)) .nil))
      exact k _ _ _ g r
    · cases hf
  · cases hf
theorem bls_rep {K : PySem.W.Frag} {B : Hp} : ∀ {vs : List V} {ds : List D} {bs : List Bool}, Reps K B vs ds → bls ds = some bs → vs = bs.map V.bl
  | _, _, _, .nil, h => by cases h; rfl
  | _, _, _, .cons (v := v) (d := d) (ds := ds) r rs, h => by
    unfold bls at h
    split at h
    · next b bs h1 h2 =>
      cases h
      have e : v = .bl b := by
        cases d with
        | bl c => cases h1; cases r; rfl
        | _ => cases h1
      rw [e, bls_rep rs h2]
      rfl
    · cases h
theorem cd_all (R : Rm X) : CallR X (.builtin "all") (rCD X fAll) := by
  rintro pins s σ H xs us Q I rs ⟨B, ds, d, e, hx, hf, k⟩
  unfold fAll at hf
  split at hf
  · next zs =>
    obtain ⟨bs, hb, rfl⟩ := Option.map_eq_some_iff.mp hf
    obtain ⟨x, rfl, a, vs, rfl, q, r⟩ := vwl1 hx
    have ev := bls_rep r hb
    subst ev
    exact cr_all R.calm pins s σ H _ us Q I rs ⟨a, bs, rfl, q, k B _ H (Gr.refl e) (.bl _)⟩
  · cases hf
theorem cd_any (R : Rm X) : CallR X (.builtin "any") (rCD X fAny) := by
  rintro pins s σ H xs us Q I rs ⟨B, ds, d, e, hx, hf, k⟩
  unfold fAny at hf
  split at hf
  · next zs =>
    obtain ⟨bs, hb, rfl⟩ := Option.map_eq_some_iff.mp hf
    obtain ⟨x, rfl, a, vs, rfl, q, r⟩ := vwl1 hx
    have ev := bls_rep r hb
    subst ev
    exact cr_any R.calm pins s σ H _ us Q I rs ⟨a, bs, rfl, q, k B _ H (Gr.refl e) (.bl _)⟩
  · cases hf
/-- what isinstance asks of data -/
theorem kit_rep {pins : List (Addr × Obj)} {σ : L2.St} {H : Hp} {s : Shared} {x : V} {d : D} {u : Value} {t : String} (I : Inv X pins σ H s) (rx : RelV x u) (r : Rep X.K H x d) (ht : tyN d = some t) :
    ∃ P : Heap → Prop, PySem.W.KitX X.K u (.type t) P ∧ P s.heap ∧ u ≠ .builtin "__main__.__loader__#opaque" := by
  cases r with
  | non => cases ht; exact kit_of I rx (.base .non)
  | bl b => cases ht; exact kit_of I rx (.base (.bl b))
  | int i => cases ht; exact kit_of I rx (.base (.int i))
  | str z => cases ht; exact kit_of I rx (.base (.str z))
  | ty => cases ht
  | cl => cases ht
  | tup q _ =>
    cases ht; cases rx
    obtain ⟨its, _, ⟨o, ho, hc, _⟩, _⟩ := I.tuple q
    exact ⟨_, PySem.W.kitx_tuple, ⟨o, ho, hc⟩, fun z => nomatch z⟩
  | lst q _ =>
    cases ht; cases rx
    obtain ⟨its, _, ⟨o, n, ho, hc, _⟩, _⟩ := I.list q
    exact ⟨_, PySem.W.kitx_list, ⟨o, ho, hc⟩, fun z => nomatch z⟩
  | dct q _ =>
    cases ht; cases rx
    obtain ⟨_, _, vs, _, o, es, ep, h1, h2, _⟩ := dk_rd I.hok q
    exact ⟨_, PySem.W.kitx_dict, ⟨o, h1, h2.1⟩, fun z => nomatch z⟩
  | dctT q _ =>
    cases ht; cases rx
    obtain ⟨_, _, vs, _, o, es, ep, h1, h2, _⟩ := dt_rd I.hok q
    exact ⟨_, PySem.W.kitx_dict, ⟨o, h1, h2.1⟩, fun z => nomatch z⟩
  | obj => cases ht
  | exc0 => cases ht
  | exc => cases ht
theorem isiA_ok {K : PySem.W.Frag} {B : Hp} {t : String} {b : Bool} : ∀ {vs : List V} {cs : List D} {us : List Value}, Reps K B vs cs → Vals vs us → isiA t cs = some b → PySem.W.kitAny K (.type t) us = some b
  | _, _, _, .nil, r, h => by cases r; cases h; rfl
  | _, _, _, .cons (v := v) (d := c) r rs, q, h => by
    cases q with
    | cons q1 q2 =>
      unfold isiA at h
      unfold isiC at h
      cases c with
      | ty n =>
        cases r
        cases (show _ = Value.type n from q1)
        simp only at h
        cases hk : kitB t n with
        | none => rw [hk] at h; cases h
        | some b' =>
          rw [hk] at h
          refine kitAny_cons (kit_ty hk) (fun z => ?_) fun z => ?_
          · subst z
            exact isiA_ok rs q2 h
          · subst z
            cases h
            rfl
      | _ => cases h
theorem cd_isi : CallR X (.builtin "isinstance") (rCD X fIsi) := by
  rintro pins s σ H xs us Q I rs ⟨B, ds, d, e, hx, hf, k⟩
  unfold fIsi at hf
  split at hf
  · next dd n =>
    obtain ⟨t, ht, hf'⟩ := Option.bind_eq_some_iff.mp hf
    obtain ⟨b, hb, rfl⟩ := Option.map_eq_some_iff.mp hf'
    obtain ⟨x, y, rfl, hv, hy⟩ := vwl2 hx
    obtain rfl := vw_ty hy
    obtain ⟨u1, u2, rfl, r1, r2⟩ := vals2 rs
    cases (show u2 = Value.type n from r2)
    obtain ⟨P, Z, p, hn⟩ := kit_rep I r1 (hv.rep e) ht
    exact PySem.W.kia_one Z I.kIn p (kit_ty hb) hn fun tk => ⟨.bl b, H, I.tok tk, rfl, k B _ H (Gr.refl e) (.bl _)⟩
  · next dd cs =>
    obtain ⟨t, ht, hf'⟩ := Option.bind_eq_some_iff.mp hf
    obtain ⟨b, hb, rfl⟩ := Option.map_eq_some_iff.mp hf'
    obtain ⟨x, y, rfl, hv, a, vs, rfl, q, r⟩ := vwl2 hx
    obtain ⟨u1, u2, rfl, r1, r2⟩ := vals2 rs
    cases (show u2 = Value.ref a from r2)
    obtain ⟨P, Z, p, hn⟩ := kit_rep I r1 (hv.rep e) ht
    obtain ⟨its, rv, ⟨o, h1, h2, m, h3⟩, _⟩ := I.tuple q.1
    obtain ⟨oc, od, dt, sl⟩ := o
    simp only at h2 h3
    subst h2 h3
    exact PySem.W.kia_tup Z I.kIn p h1 (isiA_ok r rv hb) hn fun tk => ⟨.bl b, H, I.tok tk, rfl, k B _ H (Gr.refl e) (.bl _)⟩
  · cases hf
theorem cd_list : CallR X (.type "list") (rCD X fList) := by
  rintro pins s σ H xs us Q I rs ⟨B, ds, d, e, hx, hf, k⟩
  unfold fList at hf
  split at hf
  · next zs =>
    cases hf
    obtain ⟨x, rfl, a, vs, rfl, q, r⟩ := vwl1 hx
    refine call_list_of pins s σ H _ us Q I rs ⟨a, vs, rfl, .inl q, fun p hp => ?_⟩
    obtain ⟨g, r⟩ := lay_lst e hp r
    exact k _ _ _ g r
  · next zs =>
    cases hf
    obtain ⟨x, rfl, a, vs, rfl, q, r⟩ := vwl1 hx
    refine call_list_of pins s σ H _ us Q I rs ⟨a, vs, rfl, .inr q.1, fun p hp => ?_⟩
    obtain ⟨g, r⟩ := lay_lst e hp r
    exact k _ _ _ g r
  · cases hf
theorem cd_tuple : CallR X (.type "tuple") (rCD X fTuple) := by
  rintro pins s σ H xs us Q I rs ⟨B, ds, d, e, hx, hf, k⟩
  unfold fTuple at hf
  split at hf
  · next zs =>
    cases hf
    obtain ⟨x, rfl, a, vs, rfl, q, r⟩ := vwl1 hx
    refine call_tuple_of pins s σ H _ us Q I rs ⟨a, vs, rfl, .inl ⟨q, fun p hp => ?_⟩⟩
    obtain ⟨g, r⟩ := lay_tup e hp r
    exact k _ _ _ g r
  · next zs =>
    cases hf
    obtain ⟨x, rfl, a, vs, rfl, q, r⟩ := vwl1 hx
    exact call_tuple_of pins s σ H _ us Q I rs ⟨a, vs, rfl, .inr ⟨q.1, k B _ H (Gr.refl e) (.tup q.2 r)⟩⟩
  · cases hf
theorem cd_repr (R : Rm X) : CallR X (.builtin "repr") (rCD X fRepr) := by
  rintro pins s σ H xs us Q I rs ⟨B, ds, d, e, hx, hf, k⟩
  unfold fRepr at hf
  split at hf
  · next dd =>
    split at hf
    · next hl =>
      cases hf
      obtain ⟨x, rfl, hv⟩ := vwl1 hx
      obtain ⟨u, rfl, rx⟩ := vals1 rs
      obtain ⟨as, ra, na⟩ := (hv.rep e).reads I R.sm (n := 60) (.inr hl.1) rx
      obtain ⟨p1, d1⟩ := shD_ok 60 dd hl.1
      have hz := lim_ok (Nat.le_trans (shown_le 60 dd hl.1) hl.2)
      have un := R.un
      have fin : ∀ {t : Tok} {s' : Shared}, Inv X pins σ H s' → EP X pins σ Q (.str (py dd).shown t) s' := fun I' => ⟨.str _, H, I', ⟨_, rfl⟩, k B _ H (Gr.refl e) (.str _)⟩
      have ref : ∀ {a : Addr}, x = .ref a → wpAny (model X.prog X.w) X.A (call (.builtin "repr") [u]) (EP X pins σ Q) X.xe s := fun {a} ea => by
        subst ea
        cases (show u = Value.ref a from rx)
        exact repr_of_reads' ra p1 (fun _ => na) R.gd (by omega) (fun _ _ z => z) (fun h' u' tk hk => fin (I.kept (t' := tk) hk)) hz
      have hr := hv.rep e
      cases hr with
      | non => cases (show u = Value.none from rx); exact PySem.P.repr_of_none (fin (I.tok _))
      | bl b => cases (show u = Value.bool b from rx); exact PySem.P.repr_of_bool (fin (I.tok _))
      | int i => obtain ⟨t, rfl⟩ := rx; exact PySem.P.repr_of_int (by have := of_decide_eq_true (show decide (i.natAbs.log2 < 1900) = true from hl.1); omega) (fin (I.tok _))
      | str z => obtain ⟨t, rfl⟩ := rx; exact PySem.P.repr_of_str (fin (I.tok _)) hz
      | tup => exact ref rfl
      | lst => exact ref rfl
      | dct => exact ref rfl
      | dctT => exact ref rfl
      | ty => cases hl.1
      | cl => cases hl.1
      | obj => cases hl.1
      | exc0 => cases hl.1
      | exc => cases hl.1
    · cases hf
  · cases hf
end
end Dm
/-! Dm, part 11: stores on handles, methods, chains, displays of dicts. -/
namespace Dm
open PySem PySem.Spec PyProof.Rows L2
open Evl (Ex)
variable [Lams]

/-! ### a handle's object is written -/
theorem Wd.store {K : PySem.W.Frag} {B H : Hp} {al : Pl} {m : Mem} {k : Nat} {c c' : Cell} {o : HO} (wd : Wd K B al m H) (hk : m[k]? = some c) (hd : c.isDead = false) (hd' : c'.isDead = false) (hc : RepC K B al k (upd H (al k) o) (al k) c') : Wd K B al (m.set k c') (upd H (al k) o) := by
  obtain ⟨hb, _⟩ := wd.cell k c hk hd
  have hf := wd.fc k c hk hd
  have lk : k < m.length := by
    rw [List.getElem?_eq_some_iff] at hk
    exact hk.1
  have cases_ : ∀ j c1, (m.set k c')[j]? = some c1 → (j = k ∧ c1 = c') ∨ (j ≠ k ∧ m[j]? = some c1) := fun j c1 e => by
    by_cases z : k = j
    · subst z
      rw [List.getElem?_set_self lk] at e
      exact .inl ⟨rfl, (Option.some.inj e).symm⟩
    · rw [List.getElem?_set_ne z] at e
      exact .inr ⟨fun w => z w.symm, e⟩
  have apart : ∀ j c1, m[j]? = some c1 → c1.isDead = false → j ≠ k → al j ≠ al k := fun j c1 e h z w => z (wd.inj j k c1 c e hk h hd w)
  refine ⟨fun a u e => ?_, fun j c1 e h => ?_, fun i j c1 c2 e1 e2 h1 h2 w => ?_, fun a u e => ?_, wd.fb, fun j c1 e h => ?_, wd.lk, fun q hq => (wd.tb q hq).mono (Ex.refl _) (fun a ps e _ => by
      have z : a ≠ al k := fun z => wd.notTab hk hd ps (by rw [← z]; exact e)
      rw [upd_ne z]; exact e) (fun _ _ _ e => e) fun _ _ _ e => e⟩
  · have z : a ≠ al k := fun z => by rw [z, hb] at e; cases e
    rw [upd_ne z]; exact wd.ext a u e
  · rcases cases_ j c1 e with ⟨rfl, rfl⟩ | ⟨z, e'⟩
    · exact ⟨hb, hc⟩
    · obtain ⟨g1, g2⟩ := wd.cell j c1 e' h
      exact ⟨g1, g2.at_ (upd_ne (apart j c1 e' h z))⟩
  · have there : ∀ (j : Nat) (c1 : Cell), (m.set k c')[j]? = some c1 → c1.isDead = false → ∃ c2 : Cell, m[j]? = some c2 ∧ c2.isDead = false := fun j c1 e h => by
      rcases cases_ j c1 e with ⟨rfl, rfl⟩ | ⟨z, e'⟩
      · exact ⟨c, hk, hd⟩
      · exact ⟨c1, e', h⟩
    obtain ⟨d1, f1, g1⟩ := there i c1 e1 h1
    obtain ⟨d2, f2, g2⟩ := there j c2 e2 h2
    exact wd.inj i j d1 d2 f1 f2 g1 g2 w
  · have z : a ≠ al k := fun z => by rw [z, hf] at e; cases e
    rw [upd_ne z]; exact wd.fx a u e
  · rcases cases_ j c1 e with ⟨rfl, rfl⟩ | ⟨z, e'⟩
    · exact hf
    · exact wd.fc j c1 e' h
theorem set_len {m : Mem} {k : Nat} {c : Cell} : (m.set k c).length = m.length := List.length_set

/-! ### o[i] = v on a handle -/
def dPut (es : List (D × D)) (k : Key) (v : D) : List (D × D) :=
  if (es.any fun e => decide (keyD e.1 = some k)) = true then es.map (fun e => if keyD e.1 = some k then (e.1, v) else e) else es ++ [(kD k, v)]
def stC : Cell → D → D → Option Cell
  | .lst ds, .int i, v => (ixN ds.length i).map fun j => .lst (ds.set j v)
  | .dct es, k, v => (match keyD k with
    | some kk => if es.all (fun e => isKD e.1) = true ∧ es.length < LIM then some (.dct (dPut es kk v)) else none
    | none => none)
  | _, _, _ => none
theorem dPut_rep {K : PySem.W.Frag} {B : Hp} {k : Key} {v : V} {d : D} (r : Rep K B v d) {kvs : List (Key × V)} {es : List (D × D)} (h : RepK K B kvs es) : RepK K B (putK kvs k v) (dPut es k d) := by
  have any : ∀ {kvs : List (Key × V)} {es : List (D × D)}, RepK K B kvs es → (kvs.any fun kv => decide (kv.1 = k)) = es.any fun e => decide (keyD e.1 = some k) := by
    intro kvs es h
    induction kvs generalizing es with
    | nil => cases h; rfl
    | cons p r ih =>
      cases h with
      | cons h1 h2 =>
        rw [List.any_cons, List.any_cons, ih h2, keyD_kD]
        congr 1
        simp
  have mp : ∀ {kvs : List (Key × V)} {es : List (D × D)}, RepK K B kvs es → RepK K B (kvs.map fun kv => if kv.1 = k then (kv.1, v) else kv) (es.map fun e => if keyD e.1 = some k then (e.1, d) else e) := by
    intro kvs es h
    induction kvs generalizing es with
    | nil => cases h; exact .nil
    | cons p r' ih =>
      cases h with
      | cons h1 h2 =>
        rw [List.map_cons, List.map_cons, keyD_kD]
        next k' v' d' es' =>
        by_cases e : k' = k
        · subst e
          rw [if_pos rfl, if_pos rfl]
          exact .cons r (ih h2)
        · rw [if_neg e, if_neg (fun z => e (Option.some.inj z))]
          exact .cons h1 (ih h2)
  have ap : ∀ {kvs : List (Key × V)} {es : List (D × D)}, RepK K B kvs es → RepK K B (kvs ++ [(k, v)]) (es ++ [(kD k, d)]) := by
    intro kvs es h
    induction kvs generalizing es with
    | nil => cases h; exact .cons r .nil
    | cons p r' ih => cases h with | cons h1 h2 => exact .cons h1 (ih h2)
  unfold putK dPut
  rw [any h]
  by_cases e : (es.any fun e => decide (keyD e.1 = some k)) = true
  · rw [if_pos e, if_pos e]; exact mp h
  · rw [if_neg e, if_neg e]; exact ap h
def rStC (X : Cx) : TSet := fun o i v H Q => ∃ (B : Hp) (al : Pl) (kk : Nat) (a : Addr) (c c' : Cell) (di dv : D), o = .ref a ∧ Ex B H ∧ RepC X.K B al kk H a c ∧ Vw X.K B H i di ∧ Rep X.K B v dv ∧ stC c di dv = some c' ∧ ∀ o', RepC X.K B al kk (upd H a o') a c' → Q (upd H a o')
section
variable {X : Cx}
theorem set_C (R : Rm X) : PSet X (rStC X) := by
  rintro pins s σ H o i v ov iv u Q I ro ri rv ⟨B, pl, kk, a, c, c', di, dv, rfl, e, hc, hi, hv, hs, q⟩
  cases c with
  | lst ds =>
    obtain ⟨vs, ha, r⟩ := hc
    cases di with
    | int k =>
      obtain rfl := vw_int hi
      obtain ⟨j, hj, rfl⟩ := Option.map_eq_some_iff.mp (show (ixN ds.length k).map (fun j => Cell.lst (ds.set j dv)) = some c' from hs)
      exact set_list pins s σ H _ _ v ov iv u Q I ro ri rv ⟨a, vs, k, j, rfl, rfl, ha, by rw [r.length]; exact hj, q _ ⟨_, upd_same, r.set hv j⟩⟩
    | _ => cases hs
  | dct es =>
    have hs' : (match keyD di with
      | some kk => if es.all (fun e => isKD e.1) = true ∧ es.length < LIM then some (Cell.dct (dPut es kk dv)) else none
      | none => none) = some c' := by cases di <;> exact hs
    split at hs'
    · next kk hk =>
      split at hs'
      · next ha =>
        cases hs'
        cases (show ov = Value.ref a from ro)
        have un := R.un
        rcases hc with ⟨kvs, h1, h2⟩ | ⟨kvs, h1, h2⟩
        · have ri' : i = kV kk := keyD_val hk (hi.rep e)
          refine d_setItem (by omega) I (.inl ⟨kvs, kk, h1, ri', by rw [h2.length]; exact lim_lt ha.2, rfl⟩) ri rv fun s' I' => ⟨_, I', q _ (.inl ⟨_, upd_same, dPut_rep hv h2⟩)⟩
        · cases h2 with
          | one _ => have := ha.1; rw [List.all_cons] at this; cases this
          | cons _ _ => have := ha.1; rw [List.all_cons] at this; cases this
      · cases hs'
    · cases hs'
  | _ => cases hs
def gIdx (mo mi : EM) : GM := fun w ρ m => match w with
  | .hdl _ => none
  | .clo _ _ => none
  | .dat v => (match mo ρ m with
    | some (.ok (.hdl k), m1) => (match mi ρ m1 with
      | some (.ok wi, m2) => (match view m2 wi, m2[k]? with
        | some di, some c => (match stC c di v with
          | some c' => some (.nx ρ, m2.set k c')
          | none => none)
        | _, _ => none)
      | _ => none)
    | _ => none)
theorem gIdx_cases {mo mi : EM} {w : W} {ρ : Slots} {m m' : Mem} {f : Fl} (q : gIdx mo mi w ρ m = some (f, m')) : ∃ v k m1 wi m2 di c c', w = .dat v ∧ mo ρ m = some (.ok (.hdl k), m1) ∧ mi ρ m1 = some (.ok wi, m2) ∧ view m2 wi = some di ∧ m2[k]? = some c ∧ stC c di v = some c' ∧ f = .nx ρ ∧ m' = m2.set k c' := by
  unfold gIdx at q
  split at q
  · cases q
  · cases q
  · next v =>
    split at q
    · next k m1 e1 =>
      split at q
      · next wi m2 e2 =>
        split at q
        · next di c e3 e4 =>
          split at q
          · next c' e5 => cases q; exact ⟨v, k, m1, wi, m2, di, c, c', rfl, e1, e2, e3, e4, e5, rfl, rfl⟩
          · cases q
        · cases q
      · cases q
    · cases q
theorem stC_live {c c' : Cell} {i v : D} (h : stC c i v = some c') : c.isDead = false ∧ c'.isDead = false := by
  cases c with
  | lst ds =>
    cases i with
    | int k => obtain ⟨j, _, rfl⟩ := Option.map_eq_some_iff.mp (show (ixN ds.length k).map (fun j => Cell.lst (ds.set j v)) = some c' from h); exact ⟨rfl, rfl⟩
    | _ => cases h
  | dct es =>
    have hs' : (match keyD i with
      | some kk => if es.all (fun e => isKD e.1) = true ∧ es.length < LIM then some (Cell.dct (dPut es kk v)) else none
      | none => none) = some c' := by cases i <;> exact h
    split at hs'
    · split at hs'
      · cases hs'; exact ⟨rfl, rfl⟩
      · cases hs'
    · cases hs'
  | _ => cases h
theorem sg_ix (R : Rm X) {o i : Expr} {mo mi : EM} {pos : Pos} (ho : SE X o mo) (hi : SE X i mi)
    (ha : ∀ v, assign (.Subscript o i pos) X.env v = (do
      let ov ← holding [v] (eval o X.env)
      let iv ← holding [v, ov] (eval i X.env)
      standAt pos
      holding [v, ov, iv] (setItem ov iv v)
      release [v, ov, iv] []) := by intro _; rfl) : SG X (.Subscript o i pos) (gIdx mo mi) := by
  refine ⟨fun w ρ m f m' q => ?_, fun w ρ m f m' q => ?_, fun w ρ m ρ' m' q B al σ H v Q wd rs r h pins s u I ru => (pg_sub pe_w pe_w (set_C R) ha).run pins s σ H v u Q I ru ?_⟩
  · obtain ⟨v, k, m1, wi, m2, di, c, c', rfl, e1, e2, _, _, _, _, rfl⟩ := gIdx_cases q
    rw [set_len]
    exact Nat.le_trans (ho.len _ _ _ _ e1) (hi.len _ _ _ _ e2)
  · obtain ⟨v, k, m1, wi, m2, di, c, c', rfl, _, _, _, _, _, rfl, _⟩ := gIdx_cases q
    exact ⟨_, rfl⟩
  · obtain ⟨dv, k, m1, wi, m2, di, c, c', rfl, e1, e2, e3, e4, e5, ef, rfl⟩ := gIdx_cases q
    cases ef
    refine ho.run ρ m _ m1 e1 B al σ H _ wd rs fun B1 al1 v1 H1 x1 g1 wd1 r1 => ?_
    have l1 := ho.len _ _ _ _ e1
    refine hi.run ρ m1 _ m2 e2 B1 al1 σ H1 _ wd1 (rs.mono x1 g1 l1) fun B2 al2 v2 H2 x2 g2 wd2 r2 => ?_
    have l2 := hi.len _ _ _ _ e2
    obtain ⟨d1, d2⟩ := stC_live e5
    obtain ⟨rfl, hk⟩ : v1 = .ref (al1 k) ∧ k < m1.length := r1
    have ek : al2 k = al1 k := g2.at_ k hk
    obtain ⟨cb, cc⟩ := wd2.cell k c e4 d1
    rw [ek] at cc
    refine ⟨B2, al2, k, al1 k, c, c', di, dv, rfl, wd2.ext, cc, wd2.view r2 e3, (show Rep X.K B v dv from r).mono (x1.trans x2), e5, fun o' hc' => ?_⟩
    rw [← ek] at hc' ⊢
    have w3 := wd2.store (o := o') e4 d1 d2 hc'
    refine h B2 al2 σ _ (x1.trans x2) (g1.trans g2 l1) w3 ?_
    rw [set_len]
    exact rs.mono (x1.trans x2) (g1.trans g2 l1) (Nat.le_trans l1 l2)
end

/-! ### chains of two comparisons -/
def mChain (f g : D → D → Option D) (ma mb mc : EM) : EM := fun ρ m => bnd (ma ρ m) fun x m1 => bnd (mb ρ m1) fun y m2 => bnd (ap2 f x y m2) fun w m3 => bnd (wBool w m3) fun b m4 => match b with
  | true => bnd (mc ρ m4) fun z m5 => ap2 g y z m5
  | false => rd (.bl false) m4
section
variable {X : Cx} {a b c : Expr} {ma mb mc : EM} {f g : D → D → Option D} {r r' : R2} {pos : Pos} {op op' : CmpOp}
theorem chain_len (ha : SE X a ma) (hb : SE X b mb) (hc : SE X c mc) : ∀ ρ m o m', mChain f g ma mb mc ρ m = some (o, m') → m.length ≤ m'.length := fun ρ m o m' q =>
  bnd_len q (ha.len ρ m) fun x m1 q1 => bnd_len q1 (hb.len ρ m1) fun y m2 q2 => bnd_len q2 (fun o1 m1 e => by obtain ⟨_, _, _, _, _, _, _, rfl⟩ := ap2_eq e; exact Nat.le_refl _) fun w m3 q3 =>
    bnd_len q3 wBool_len fun b m4 q4 => by
      cases b with
      | true => exact bnd_len q4 (hc.len ρ m4) fun z m5 q5 => by obtain ⟨_, _, _, _, _, _, _, rfl⟩ := ap2_eq q5; exact Nat.le_refl _
      | false => cases q4; exact Nat.le_refl _
theorem chain_run (hs : OpS X r f) (hs' : OpS X r' g) (ha : SE X a ma) (hb : SE X b mb) (hc : SE X c mc) {ρ : Slots} {m m' : Mem} {o : Out W} (q : mChain f g ma mb mc ρ m = some (o, m')) {B : Hp} {al : Pl} {σ : L2.St} {H : Hp} {Q : VK}
    (wd : Wd X.K B al m H) (rs : RepS X.K B al m.length σ ρ) (h : AnsE X B al m.length σ Q m' o) : tChain r r' (wE X a) (wE X b) (wE X c) σ H Q := by
  refine ha.seq q wd rs h.res fun x m1 q1 l1 B1 al1 v1 H1 e1 g1 wd1 r1 => ?_
  refine hb.seq q1 wd1 (rs.mono e1 g1 l1) (fun c fs z => (h.res c fs z).mono e1 g1 l1) fun y m2 q2 l2 B2 al2 v2 H2 e2 g2 wd2 r2 => ?_
  rcases bnd_cases q2 with ⟨w, m3, e3, q3⟩ | ⟨_, _, e3, _⟩
  rotate_left
  · obtain ⟨_, _, _, _, _, _, z, _⟩ := ap2_eq e3; cases z
  obtain ⟨dx, dy, d, hx, hy, hf, ew, rfl⟩ := ap2_eq e3
  cases ew
  rcases bnd_cases q3 with ⟨bb, m4, e4, q4⟩ | ⟨_, _, e4, _⟩
  rotate_left
  · obtain ⟨_, _, z, _⟩ := wBool_eq e4; cases z
  obtain ⟨b', ew, eb, rfl⟩ := wBool_eq e4
  cases eb
  cases ew
  refine hs dx dy _ hf B2 H2 v1 v2 wd2.ext (wd2.view (r1.mono e2 g2 l2) hx) (wd2.view r2 hy) _ fun B3 v3 H3 g3 r3 => ?_
  cases (r3 : Rep X.K B3 v3 (.bl bb))
  have wd3 := wd2.grow g3
  have x3 := (e1.trans e2).trans g3.b
  have gg := g1.trans g2 l1
  refine ⟨bb, rfl, ?_⟩
  cases bb with
  | true =>
    rw [if_pos rfl]
    have l12 := Nat.le_trans l1 l2
    refine hc.seq q4 wd3 (rs.mono x3 gg l12) (fun c fs z => (h.res c fs z).mono x3 gg l12) fun z m5 q5 l5 B5 al5 v5 H5 e5 g5 wd5 r5 => ?_
    obtain ⟨dy', dz, d', hy', hz, hg, rfl, rfl⟩ := ap2_eq q5
    refine hs' dy' dz d' hg B5 H5 v2 v5 wd5.ext (wd5.view ((r2.mono g3.b (Agr.refl) (Nat.le_refl _)).mono e5 g5 l5) hy') (wd5.view r5 hz) Q fun B6 v6 H6 g6 r6 => ?_
    exact h B6 al5 v6 H6 ((x3.trans e5).trans g6.b) (gg.trans g5 l12) (wd5.grow g6) r6
  | false =>
    rw [if_neg Bool.false_ne_true]
    cases q4
    exact h B3 al2 _ H3 x3 gg wd3 (.bl false)
theorem se_chain (ho : OpR X (compareOp op) r) (ho' : OpR X (compareOp op') r') (hs : OpS X r f) (hs' : OpS X r' g) (ha : SE X a ma) (hb : SE X b mb) (hc : SE X c mc)
    (hm : lastMarks [op, op'] [b, c] = false := by with_unfolding_all rfl) : SE X (.Compare a [op, op'] [b, c] pos) (mChain f g ma mb mc) :=
  ⟨chain_len ha hb hc, fun ρ m o m' q B al σ H Q wd rs h pins s I => (pe_chain ho ho' pe_w pe_w pe_w hm).run pins s σ H Q I (chain_run hs hs' ha hb hc q wd rs h)⟩
theorem st_chain (ho : OpR X (compareOp op) r) (ho' : OpR X (compareOp op') r') (hs : OpS X r f) (hs' : OpS X r' g) (ha : SE X a ma) (hb : SE X b mb) (hc : SE X c mc)
    (hm : lastMarks [op, op'] [b, c] = false := by with_unfolding_all rfl) : ST X (.Compare a [op, op'] [b, c] pos) (mTest (mChain f g ma mb mc)) := by
  have he : SE X (.Compare a [op, op'] [b, c] pos) (mChain f g ma mb mc) := se_chain ho ho' hs hs' ha hb hc hm
  refine ⟨mTest_len he, fun ρ m o m' q B al σ H Q wd rs h pins s I => (pt_chain ho ho' pe_w pe_w pe_w hm).run pins s σ H Q I ?_⟩
  rcases bnd_cases q with ⟨w, m1, e1, e2⟩ | ⟨c, fs, e1, rfl⟩
  · obtain ⟨b', rfl, rfl, rfl⟩ := wBool_eq e2
    refine chain_run (Q := fun x H' => ∃ k, x = .bl k ∧ Q k H') hs hs' ha hb hc e1 wd rs fun B1 al1 v1 H1 e g wd1 r1 => ?_
    cases (r1 : Rep X.K B1 v1 (.bl b'))
    exact ⟨b', rfl, h B1 al1 H1 e g wd1⟩
  · exact chain_run (Q := fun x H' => ∃ k, x = .bl k ∧ Q k H') hs hs' ha hb hc e1 wd rs h
end

/-! ### ''.join(xs) -/
def txts : List D → Option (List Str)
  | [] => some []
  | .str x :: r => (txts r).map (x :: ·)
  | _ :: _ => none
theorem txts_rep {K : PySem.W.Frag} {B : Hp} : ∀ {vs : List V} {ds : List D} {ys : List Str}, Reps K B vs ds → txts ds = some ys → vs = ys.map V.str
  | _, _, _, .nil, h => by cases h; rfl
  | _, _, _, .cons (d := d) r rs, h => by
    cases d with
    | str x =>
      obtain ⟨zs, h1, rfl⟩ := Option.map_eq_some_iff.mp (show (txts _).map (x :: ·) = some _ from h)
      cases r
      rw [txts_rep rs h1]; rfl
    | _ => cases h
def fJoin (a : Str) : D → Option D
  | .lst ds => (txts ds).bind fun ys => if (ys.map (·.length)).sum + ys.length * a.length ≤ LIM then some (.str (Txt.join a ys)) else none
  | .tup ds => (txts ds).bind fun ys => if (ys.map (·.length)).sum + ys.length * a.length ≤ LIM then some (.str (Txt.join a ys)) else none
  | _ => none
theorem se_join {X : Cx} {e : Expr} {me : EM} {a : Str} {ka : Nat} {pa apos pos : Pos} (he : SE X e me) (hs : starEach [e] X.env = [(false, eval e X.env)] := by rfl) (hbase : attributeBase (.Constant (.str a) ka pa) "join" X.env (eval (.Constant (.str a) ka pa) X.env) = eval (.Constant (.str a) ka pa) X.env := by rfl) (hline : (apos.endLine == pos.line) = true := by rfl) :
    SE X (.Call (.Attribute (.Constant (.str a) ka pa) "join" apos) [e] [] pos) (mUn (fJoin a) me) := by
  refine ⟨un_len he, fun ρ m o' m' q B al σ H Q wd rs h pins s I => (pe_join pe_str pe_w hs hbase hline).run pins s σ H Q I ⟨⟨a, rfl⟩, ?_⟩⟩
  refine he.seq q wd rs h.res fun y m2 q2 l2 B2 al2 v2 H2 x2 g2 wd2 r2 => ?_
  obtain ⟨dy, d, hy, hf, rfl, rfl⟩ := ap1_eq q2
  have v := wd2.view r2 hy
  have fin : ∀ {p : Addr} {vs : List V} {ds : List D}, v2 = .ref p → (SqL X.K H2 p vs ∨ SqT X.K H2 p vs) → Reps X.K B2 vs ds → ((txts ds).bind fun ys => if (ys.map (·.length)).sum + ys.length * a.length ≤ LIM then some (D.str (Txt.join a ys)) else none) = some d →
      ∃ a' p, ∃ ys : List Str, V.str a = .str a' ∧ [v2] = [.ref p] ∧ (SqL X.K H2 p (ys.map V.str) ∨ SqT X.K H2 p (ys.map V.str)) ∧ (ys.map (·.length)).sum + ys.length * a'.length ≤ 16777216 ∧ Q (.str (Txt.join a' ys)) H2 := by
    intro p vs ds ep hq rr hf'
    obtain ⟨ys, h1, h2⟩ := Option.bind_eq_some_iff.mp hf'
    split at h2
    · next hl =>
      cases h2
      have := txts_rep rr h1
      subst this
      exact ⟨a, p, ys, rfl, by rw [ep], hq, Nat.le_trans hl (by decide), h B2 al2 _ H2 x2 g2 wd2 (.str _)⟩
    · cases h2
  cases dy with
  | lst ds =>
    obtain ⟨p, vs, ep, hq, rr⟩ := v
    exact fin ep (.inl hq) rr hf
  | tup ds =>
    obtain ⟨p, vs, ep, hq, rr⟩ := v
    exact fin ep (.inr hq.1) rr hf
  | _ => cases hf
end Dm
/-! Dm, part 12: displays of dicts, names of built-in types, methods of lists. -/
namespace Dm
open PySem PySem.Spec PyProof.Rows L2
open Evl (Ex)
variable [Lams]
/-! ### {}, {k: v, ..} -/
section
variable {X : Cx}
theorem se_dct0 {pos : Pos} : SE X (.Dict [] [] pos) (mC (.dct [])) := by
  refine ⟨fun ρ m o m' q => by cases q; exact Nat.le_refl _, fun ρ m o m' q B al σ H Q wd rs h => wE.lock fun pins s I => pe_dnewK.run pins s σ H _ I fun p hp => .inr ⟨p, .dK [], rfl, upd_same, trivial, fun od => ?_⟩⟩
  cases q
  have g := Gr.lay (o := .frz od (.dK [])) wd.ext hp
  have e2 : upd (upd H p (.dK [])) p (.frz od (.dK [])) = upd H p (.frz od (.dK [])) := by
    funext a
    by_cases z : a = p
    · subst z; rw [upd_same, upd_same]
    · rw [upd_ne z, upd_ne z, upd_ne z]
  rw [e2]
  exact h _ al _ _ g.b Agr.refl (wd.grow g) (.dct (.inr ⟨od, upd_same⟩) .nil)
def mDct0H : EM := fun _ m => ret (.hdl m.length) (m ++ [.dct []])
theorem se_dct0H {pos : Pos} : SE X (.Dict [] [] pos) mDct0H := by
  refine ⟨fun ρ m o m' q => by cases q; simp, fun ρ m o m' q B al σ H Q wd rs h pins s I => pe_dnewK.run pins s σ H Q I fun p hp => ?_⟩
  cases q
  obtain ⟨w2, a2⟩ := wd.alloc (o := .dK []) (c := .dct []) hp (.inl ⟨[], upd_same, .nil⟩)
  exact h B _ _ _ (Ex.refl B) a2 w2 ⟨by rw [alx_here], by simp⟩
def mPairs : List (EM × EM) → Slots → Mem → Option (List (D × D) × Mem)
  | [], _, m => some ([], m)
  | (mk, mv) :: r, ρ, m => match mk ρ m with
    | some (.ok (.dat k), m1) => (match mv ρ m1 with
      | some (.ok (.dat v), m2) => (match mPairs r ρ m2 with
        | some (ps, m3) => some ((k, v) :: ps, m3)
        | none => none)
      | _ => none)
    | _ => none
inductive RepP (K : PySem.W.Frag) (B : Hp) : List (V × V) → List (D × D) → Prop
  | nil : RepP K B [] []
  | cons {k v dk dv r es} : Rep K B k dk → Rep K B v dv → RepP K B r es → RepP K B ((k, v) :: r) ((dk, dv) :: es)
structure SPs (X : Cx) (pos : Pos) (keys : List (Option Expr)) (values : List Expr) (ms : List (EM × EM)) : Prop where
  ex : ∃ trs, PPs X pos keys values trs ∧ (∀ ρ m ps m', mPairs ms ρ m = some (ps, m') → m.length ≤ m'.length) ∧
    ∀ ρ m ps m', mPairs ms ρ m = some (ps, m') → ∀ B al σ H Q, Wd X.K B al m H → RepS X.K B al m.length σ ρ →
      (∀ B' al' xs H', Ex B B' → Agr m.length al al' → Wd X.K B' al' m' H' → RepP X.K B' xs ps → Q xs H') → tPairs trs σ H Q
theorem sps_nil {pos : Pos} : SPs X pos [] [] [] := ⟨[], pps_nil, fun ρ m ps m' q => by cases q; exact Nat.le_refl _, fun ρ m ps m' q B al σ H Q wd rs h => by
  cases q
  exact h B al [] H (Ex.refl B) Agr.refl wd .nil⟩
theorem RepP.mono {K : PySem.W.Frag} {B B' : Hp} (e : Ex B B') : ∀ {xs : List (V × V)} {ps : List (D × D)}, RepP K B xs ps → RepP K B' xs ps
  | _, _, .nil => .nil
  | _, _, .cons a b r => .cons (a.mono e) (b.mono e) (RepP.mono e r)
theorem sps_cons {pos : Pos} {k v : Expr} {ks : List (Option Expr)} {vs : List Expr} {mk mv : EM} {ms : List (EM × EM)} (hk : SE X k mk) (hv : SE X v mv) (hr : SPs X pos ks vs ms) : SPs X pos (some k :: ks) (v :: vs) ((mk, mv) :: ms) := by
  obtain ⟨trs, pp, ln, run⟩ := hr.ex
  have inv : ∀ {ρ : Slots} {m m' : Mem} {ps : List (D × D)}, mPairs ((mk, mv) :: ms) ρ m = some (ps, m') → ∃ k m1 v m2 r, mk ρ m = some (.ok (.dat k), m1) ∧ mv ρ m1 = some (.ok (.dat v), m2) ∧ mPairs ms ρ m2 = some (r, m') ∧ ps = (k, v) :: r := fun {ρ m m' ps} q => by
    unfold mPairs at q
    split at q
    · next k m1 e1 =>
      split at q
      · next v m2 e2 =>
        split at q
        · next r m3 e3 => cases q; exact ⟨k, m1, v, m2, r, e1, e2, e3, rfl⟩
        · cases q
      · cases q
    · cases q
  refine ⟨_, pps_cons (pe_w (X := X)) (pe_w (X := X)) pp, fun ρ m ps m' q => ?_, fun ρ m ps m' q B al σ H Q wd rs h => ?_⟩
  · obtain ⟨k, m1, v, m2, r, e1, e2, e3, rfl⟩ := inv q
    exact Nat.le_trans (hk.len _ _ _ _ e1) (Nat.le_trans (hv.len _ _ _ _ e2) (ln _ _ _ _ e3))
  · obtain ⟨k, m1, v, m2, r, e1, e2, e3, rfl⟩ := inv q
    have l1 := hk.len _ _ _ _ e1
    have l2 := hv.len _ _ _ _ e2
    refine hk.run _ _ _ _ e1 B al σ H _ wd rs fun B1 al1 x H1 x1 g1 wd1 r1 => ?_
    refine hv.run _ _ _ _ e2 B1 al1 σ H1 _ wd1 (rs.mono x1 g1 l1) fun B2 al2 y H2 x2 g2 wd2 r2 => ?_
    refine run _ _ _ _ e3 B2 al2 σ H2 _ wd2 ((rs.mono x1 g1 l1).mono x2 g2 l2) fun B3 al3 xs H3 x3 g3 wd3 r3 => ?_
    exact h B3 al3 _ H3 ((x1.trans x2).trans x3) ((g1.trans g2 l1).trans g3 (Nat.le_trans l1 l2)) wd3 (.cons (Rep.mono (x2.trans x3) r1) (Rep.mono x3 r2) r3)
/-- the pairs put in, in turn -/
def dMerge (ps : List (D × D)) : List (D × D) := ps.foldl (fun acc e => match keyD e.1 with
  | some k => dPut acc k e.2
  | none => acc) []
theorem repP_keys {K : PySem.W.Frag} {B : Hp} : ∀ {xs : List (V × V)} {ps : List (D × D)}, RepP K B xs ps → ps.all (fun e => isKD e.1) = true → ∃ kvs : List (Key × V), xs = kvs.map (fun kv => (kV kv.1, kv.2)) ∧ kvs.length = ps.length ∧
    ∀ (acc : List (Key × V)) (da : List (D × D)), RepK K B acc da → RepK K B (kvs.foldl (fun acc kv => putK acc kv.1 kv.2) acc) (ps.foldl (fun acc e => match keyD e.1 with
      | some k => dPut acc k e.2
      | none => acc) da)
  | _, _, .nil, _ => ⟨[], rfl, rfl, fun _ _ h => h⟩
  | _, _, .cons (k := k) (v := v) (dk := dk) (dv := dv) (es := es) a b r, h => by
    rw [List.all_cons, Bool.and_eq_true] at h
    obtain ⟨kvs, e1, e2, e3⟩ := repP_keys r h.2
    have hk : ∃ kk, keyD dk = some kk := by
      cases dk with
      | int i => exact ⟨_, rfl⟩
      | str i => exact ⟨_, rfl⟩
      | _ => cases h.1
    obtain ⟨kk, hk⟩ := hk
    refine ⟨(kk, v) :: kvs, by rw [List.map_cons, ← e1, keyD_val hk a], congrArg (· + 1) e2, fun acc da h => ?_⟩
    rw [List.foldl_cons, List.foldl_cons]
    have : (match keyD (dk, dv).1 with
      | some k => dPut da k (dk, dv).2
      | none => da) = dPut da kk dv := by rw [show keyD (dk, dv).1 = some kk from hk]
    rw [this]
    exact e3 _ _ (dPut_rep b h)
def mDct (ms : List (EM × EM)) : EM := fun ρ m => match mPairs ms ρ m with
  | some (ps, m1) => if ps.all (fun e => isKD e.1) = true ∧ ps.length ≤ 15 then rd (.dct (dMerge ps)) m1 else none
  | none => none
def mDctH (ms : List (EM × EM)) : EM := fun ρ m => match mPairs ms ρ m with
  | some (ps, m1) => if ps.all (fun e => isKD e.1) = true ∧ ps.length ≤ 15 then ret (.hdl m1.length) (m1 ++ [.dct (dMerge ps)]) else none
  | none => none
theorem disp_run {pos : Pos} {keys : List (Option Expr)} {values : List Expr} {ms : List (EM × EM)} (h : SPs X pos keys values ms) (hall : keys.all (·.isSome) = true) (hl : keys.length = values.length) (h0 : keys ≠ []) (h15 : keys.length ≤ 15)
    {ρ : Slots} {m m1 : Mem} {ps : List (D × D)} (q : mPairs ms ρ m = some (ps, m1)) (hk : ps.all (fun e => isKD e.1) = true ∧ ps.length ≤ 15) {B : Hp} {al : Pl} {σ : L2.St} {H : Hp} {Q : VK} (wd : Wd X.K B al m H) (rs : RepS X.K B al m.length σ ρ)
    (fin : ∀ B' al' p H' kvs, Ex B B' → Agr m.length al al' → Wd X.K B' al' m1 H' → B' p = none → al'.fr p = none → (∀ j c, m1[j]? = some c → c.isDead = false → al' j ≠ p) → H' p = some (.dK kvs) → RepK X.K B' kvs (dMerge ps) → Q (.ref p) H') : wE X (.Dict keys values pos) σ H Q := fun pins s I => by
  obtain ⟨trs, pp, ln, run⟩ := h.ex
  refine (pe_disp pp hall hl h0 h15).run pins s σ H Q I fun p hp => ?_
  have hb : B p = none := by
    cases e : B p with
    | none => rfl
    | some u => rw [wd.ext p u e] at hp; cases hp
  have hf : al.fr p = none := by
    cases e : al.fr p with
    | none => rfl
    | some u => rw [wd.fx p u e] at hp; cases hp
  have wd0 := (wd.grow (Gr.by (o := .dK []) wd.ext hp)).hide (p := p) (o := .dK []) upd_same hb fun j c e hd => wd.notNew hp e hd
  refine run ρ m ps m1 q B _ σ _ _ wd0 (RepS.mono (al := al) (Ex.refl B) ⟨fun _ _ => rfl, rfl⟩ (Nat.le_refl _) (by
    refine ⟨rs.1, fun i w hw => ?_⟩
    obtain ⟨v, h1, h2⟩ := rs.2 i w hw
    exact ⟨v, h1, by cases w with | dat d => exact h2 | hdl k => exact h2 | clo i ds => exact h2⟩)) fun B2 al2 xs H2 x2 g2 wd2 r2 => ?_
  obtain ⟨kvs, e1, e2, e3⟩ := repP_keys r2 hk.1
  obtain ⟨w3, b3, h3, n3⟩ := wd2.unhide (o' := .dK (mergeK [] kvs)) g2.fr hf
  exact ⟨h3, kvs, e1, by rw [e2]; exact hk.2, fin B2 ⟨al2.at_, al.fr⟩ p _ _ x2 ⟨g2.at_, rfl⟩ w3 b3 hf n3 upd_same (e3 [] [] .nil)⟩
theorem se_dct {pos : Pos} {keys : List (Option Expr)} {values : List Expr} {ms : List (EM × EM)} (h : SPs X pos keys values ms) (hall : keys.all (·.isSome) = true := by rfl) (hl : keys.length = values.length := by rfl) (h0 : keys ≠ [] := by intro z; cases z) (h15 : keys.length ≤ 15 := by decide) :
    SE X (.Dict keys values pos) (mDct ms) := by
  have inv : ∀ {ρ : Slots} {m m' : Mem} {o : Out W}, mDct ms ρ m = some (o, m') → ∃ ps, mPairs ms ρ m = some (ps, m') ∧ (ps.all (fun e => isKD e.1) = true ∧ ps.length ≤ 15) ∧ o = .ok (.dat (.dct (dMerge ps))) := fun {ρ m m' o} q => by
    unfold mDct at q
    split at q
    · next ps m1 e =>
      split at q
      · next hc => cases q; exact ⟨ps, e, hc, rfl⟩
      · cases q
    · cases q
  refine ⟨fun ρ m o m' q => ?_, fun ρ m o m' q B al σ H Q wd rs ha => ?_⟩
  · obtain ⟨ps, e, _, _⟩ := inv q
    obtain ⟨_, _, ln, _⟩ := h.ex
    exact ln _ _ _ _ e
  · obtain ⟨ps, e, hk, rfl⟩ := inv q
    refine wE.lock (disp_run h hall hl h0 h15 e hk wd rs fun B' al' p H' kvs x g w hb hf nc hp r => .inr ⟨p, .dK kvs, rfl, hp, trivial, fun od => ?_⟩)
    obtain ⟨w2, x2⟩ := w.freezeAs (o' := .frz od (.dK kvs)) hp hb hf nc
    exact ha _ al' _ _ (x.trans x2) g w2 (.dct (.inr ⟨od, upd_same⟩) (r.mono x2))
theorem se_dctH {pos : Pos} {keys : List (Option Expr)} {values : List Expr} {ms : List (EM × EM)} (h : SPs X pos keys values ms) (hall : keys.all (·.isSome) = true := by rfl) (hl : keys.length = values.length := by rfl) (h0 : keys ≠ [] := by intro z; cases z) (h15 : keys.length ≤ 15 := by decide) :
    SE X (.Dict keys values pos) (mDctH ms) := by
  have inv : ∀ {ρ : Slots} {m m' : Mem} {o : Out W}, mDctH ms ρ m = some (o, m') → ∃ ps m1, mPairs ms ρ m = some (ps, m1) ∧ (ps.all (fun e => isKD e.1) = true ∧ ps.length ≤ 15) ∧ o = .ok (.hdl m1.length) ∧ m' = m1 ++ [.dct (dMerge ps)] := fun {ρ m m' o} q => by
    unfold mDctH at q
    split at q
    · next ps m1 e =>
      split at q
      · next hc => cases q; exact ⟨ps, m1, e, hc, rfl, rfl⟩
      · cases q
    · cases q
  refine ⟨fun ρ m o m' q => ?_, fun ρ m o m' q B al σ H Q wd rs ha => ?_⟩
  · obtain ⟨ps, m1, e, _, _, rfl⟩ := inv q
    obtain ⟨_, _, ln, _⟩ := h.ex
    have := ln _ _ _ _ e
    rw [List.length_append]; omega
  · obtain ⟨ps, m1, e, hk, rfl, rfl⟩ := inv q
    refine disp_run h hall hl h0 h15 e hk wd rs fun B' al' p H' kvs x g w hb hf nc hp r => ?_
    have ln : m.length ≤ m1.length := let ⟨_, _, ln, _⟩ := h.ex; ln _ _ _ _ e
    have w2 : Wd X.K B' (alx al' m1.length p) (m1 ++ [.dct (dMerge ps)]) H' := by
      refine ⟨w.ext, fun k c' e hd => ?_, fun j k c1 c2 e1 e2 hd1 hd2 hjk => ?_, w.fx, w.fb, fun k c' e hd => ?_, w.lk, w.tb⟩
      · rcases snoc_get e with ⟨hk, e'⟩ | ⟨rfl, rfl⟩
        · rw [alx_old hk]; exact ⟨(w.cell k c' e' hd).1, (w.cell k c' e' hd).2.agr fun j hj => alx_old (Nat.lt_trans hj hk)⟩
        · rw [alx_here]; exact ⟨hb, .inl ⟨kvs, hp, r⟩⟩
      · rcases snoc_get e1 with ⟨hj, e1'⟩ | ⟨rfl, rfl⟩ <;> rcases snoc_get e2 with ⟨hk, e2'⟩ | ⟨rfl, rfl⟩
        · rw [alx_old hj, alx_old hk] at hjk
          exact w.inj j k c1 c2 e1' e2' hd1 hd2 hjk
        · rw [alx_old hj, alx_here] at hjk
          exact absurd hjk (nc j c1 e1' hd1)
        · rw [alx_old hk, alx_here] at hjk
          exact absurd hjk.symm (nc k c2 e2' hd2)
        · rfl
      · rcases snoc_get e with ⟨hk, e'⟩ | ⟨rfl, rfl⟩
        · rw [alx_old hk]; exact w.fc k c' e' hd
        · rw [alx_here]; exact hf
    exact ha B' _ _ H' x (g.trans ⟨fun k hk => alx_old hk, rfl⟩ ln) w2 ⟨by rw [alx_here], by simp⟩
/-- a built-in type by its name -/
theorem se_bty {x : Str} {T : String} {pos : Pos} (hg : Gl X x) (hm : X.mg x = none) (hv : bootBuiltins x = some (.type T)) (hn : x ≠ "__name__" := by decide) (hd : (x == ("__debug__" : Str)) = false := by decide) : SE X (.Name x pos) (mC (.ty T)) :=
  .ofC (pe_bltn (v := .ty T) hg hm hv rfl hn hd) fun _ => .ty T
end
end Dm
/-! Dm, part 13: the walk's short words. -/
namespace Dm
open PySem PySem.Spec PyProof.Rows L2
open Evl (Ex)
variable [Lams]
section
variable {X : Cx} {N : List Str} {sc : Scope} {k : Nat} {fn : Str → Bool}
theorem Good.rm (g : Good X N sc k fn) : Rm X := ⟨by have := g.room.un; omega, g.sm, g.gd, g.calm⟩
theorem Good.gl (g : Good X N sc k fn) {x : Str} (h : sc.names.lookup x = some .globalImplicit) : Gl X x := by
  show X.env.scope.names.lookup x = _
  rw [g.sc]; exact h
def visB (sc : Scope) (x : Str) : Bool := match sc.names.lookup x with
  | some .local => true
  | some .cell => true
  | some .free => true
  | _ => false
def locB (sc : Scope) (x : Str) : Bool := match sc.names.lookup x with
  | some .local => true
  | some .cell => true
  | _ => false
theorem vis_of {sc : Scope} {x : Str} (h : visB sc x = true) : Vis sc x := by
  unfold visB at h
  split at h
  · next e => exact .inl e
  · next e => exact .inr (.inl e)
  · next e => exact .inr (.inr e)
  · cases h
theorem loc_of {sc : Scope} {x : Str} (h : locB sc x = true) : Loc sc x := by
  unfold locB at h
  split at h
  · next e => exact .inl e
  · next e => exact .inr e
  · cases h
/-- a name of the scope, at its slot, and no word of the machine's own -/
def vB (N : List Str) (sc : Scope) (i : Nat) (x : Str) : Bool := decide (N[i]? = some x) && visB sc x && !(x == ("__debug__" : Str)) && !(x == ("__classdict__" : Str))
theorem Good.v (g : Good X N sc k fn) (i : Nat) {x : Str} {pos : Pos} (h : vB N sc i x = true) : SE X (.Name x pos) (mVar i) := by
  unfold vB at h
  rw [Bool.and_eq_true, Bool.and_eq_true, Bool.and_eq_true, Bool.not_eq_true', Bool.not_eq_true'] at h
  exact se_var i (by rw [g.N]; exact of_decide_eq_true h.1.1.1) (by rw [g.sc]; exact vis_of h.1.1.2) h.1.2 h.2
theorem Good.fnl (g : Good X N sc k fn) {x : Str} (h : fn x = true ∨ sc.names.lookup x = some .local) : X.fn x = true ∨ X.env.scope.names.lookup x = some .local := by
  rw [g.fn, g.sc]; exact h
theorem Good.tg (g : Good X N sc k fn) (i : Nat) {x : Str} {pos : Pos} (hN : N[i]? = some x) (hl : locB sc x = true) (hf : fn x = true ∨ sc.names.lookup x = some .local) : SG X (.Name x pos) (gSet i) :=
  sg_name i g.nd (by rw [g.N]; exact hN) (by rw [g.sc]; exact loc_of hl) (g.fnl hf)
theorem by_sc {env : Env} {sc : Scope} (e : env.scope = sc) : env = { env with scope := sc } := by
  cases env; subst e; rfl
theorem Good.sw1 (g : Good X N sc k fn) {ts : List Expr} {v : Expr} {l : Nat} {r : Sem Bool} (h : ∀ env : Env, swapsWithSole ts v l { env with scope := sc } = r) : swapsWithSole ts v l X.env = r := by
  rw [by_sc g.sc]; exact h _
theorem Good.sw2 (g : Good X N sc k fn) {ts : List Expr} {v : Expr} {r : Sem (Option (List Str))} (h : ∀ env : Env, swappedStores ts v { env with scope := sc } = r) : swappedStores ts v X.env = r := by
  rw [by_sc g.sc]; exact h _
theorem Good.sw3 (g : Good X N sc k fn) {v : Expr} {t : Option Expr} {l : Nat} {r : Sem Bool} (h : ∀ env : Env, swapsWith v t l { env with scope := sc } = r) : swapsWith v t l X.env = r := by
  rw [by_sc g.sc]; exact h _
theorem Good.set (g : Good X N sc k fn) (i : Nat) {x : Str} {e : Expr} {me : EM} {pos pos' : Pos} (he : SE X e me) (hN : N[i]? = some x) (hl : locB sc x = true) (hf : fn x = true ∨ sc.names.lookup x = some .local) (hs : ∀ env : Env, swapsWith e (some (.Name x pos')) pos.line { env with scope := sc } = pure false) :
    SS X (.Assign [.Name x pos'] e pos) (sSet i me) :=
  ss_set i g.nd (by rw [g.N]; exact hN) (by rw [g.sc]; exact loc_of hl) he (g.sw3 hs) (g.fnl hf)
theorem Good.asg (g : Good X N sc k fn) {tg e : Expr} {me : EM} {mg : GM} {pos : Pos} (he : SE X e me) (hg : SG X tg mg) (hs : ∀ env : Env, swapsWithSole [tg] e pos.line { env with scope := sc } = pure false) (hw : ∀ env : Env, swappedStores [tg] e { env with scope := sc } = pure none) (hn : noStar tg = true := by rfl) :
    SS X (.Assign [tg] e pos) (sAsg me mg) := ss_asg he hg (g.sw1 hs) (g.sw2 hw) hn
theorem Good.expr (g : Good X N sc k fn) {e : Expr} {me : EM} {pos : Pos} (he : SE X e me) (hs : ∀ env : Env, swapsWith e none pos.line { env with scope := sc } = pure false) : SS X (.Expr e pos) (sDrop me) := ss_expr he (g.sw3 hs)
theorem Good.par (g : Good X N sc k fn) (i j : Nat) {x y : Str} {a b : Expr} {ma : AM} {px py pt pos : Pos} {kt k2 : Nat} {pt2 : Pos} (ha : SA X [a, b] ma) (hi : N[i]? = some x) (hj : N[j]? = some y) (hij : i ≠ j) (hx : sc.names.lookup x = some .local) (hy : sc.names.lookup y = some .local)
    (hw : ∀ env : Env, swappedStores [.Tuple [.Name x px, .Name y py] kt pt] (.Tuple [a, b] k2 pt2) { env with scope := sc } = pure (some [x, y])) (hs : ∀ env : Env, swapsWithSole [.Tuple [.Name x px, .Name y py] kt pt] (.Tuple [a, b] k2 pt2) pos.line { env with scope := sc } = pure false) :
    SS X (.Assign [.Tuple [.Name x px, .Name y py] kt pt] (.Tuple [a, b] k2 pt2) pos) (sPar i j ma) :=
  ss_par i j g.calm g.nd (by rw [g.N]; exact hi) (by rw [g.N]; exact hj) hij (by rw [g.sc]; exact hx) (by rw [g.sc]; exact hy) ha (g.sw2 hw) (g.sw1 hs)
/-- calls of defs -/
theorem Good.callP (g : Good X N sc k fn) {x : Str} {j : Nat} {ps : List Str} {mf : FM} {e : Expr} {es : List Expr} {ma : AM} {p pos : Pos} (F : DefOk X.prog X.w X.K X.mg X.base x j ps mf) (hj : Nat.ble j k = true) (hg : sc.names.lookup x = some .globalImplicit) (hm : X.mg x = some (.ref (He.ga X.K x)))
    (ha : SA X (e :: es) ma) (h0 : noStar e = true := by rfl) (h1 : es.all noStar = true := by rfl) (hdb : (x == ("__debug__" : Str)) = false := by decide) : SE X (.Call (.Name x p) (e :: es) [] pos) (mDef ps.length 0 (fun ws _ => ws) mf ma mNil) :=
  se_callP F (Nat.le_of_ble_eq_true hj) g.room g.gd (g.gl hg) hm ha h0 h1 hdb
theorem Good.callP0 (g : Good X N sc k fn) {x : Str} {j : Nat} {mf : FM} {p pos : Pos} (F : DefOk X.prog X.w X.K X.mg X.base x j [] mf) (hj : Nat.ble j k = true) (hg : sc.names.lookup x = some .globalImplicit) (hm : X.mg x = some (.ref (He.ga X.K x)))
    (hdb : (x == ("__debug__" : Str)) = false := by decide) : SE X (.Call (.Name x p) [] [] pos) (mDef 0 0 (fun ws _ => ws) mf mNil mNil) := se_callP0 F (Nat.le_of_ble_eq_true hj) g.room g.gd (g.gl hg) hm hdb
theorem Good.callN (g : Good X N sc k fn) {x : Str} {j n : Nat} {ps ks : List Str} {mf : FM} {gW : List W → List W → List W} {e : Expr} {es : List Expr} {kws : List Keyword} {ma mk : AM} {p pos : Pos} (F : DefKw X.prog X.w X.K X.mg X.base x j ps mf n ks gW) (hj : Nat.ble j k = true) (hg : sc.names.lookup x = some .globalImplicit) (hm : X.mg x = some (.ref (He.ga X.K x)))
    (ha : SA X (e :: es) ma) (hw : SK X kws mk) (hall : (kws.map (·.arg)).all (·.isSome) = true := by rfl) (hks : (kws.map (·.arg)).filterMap id = ks := by rfl) (h0 : noStar e = true := by rfl) (h1 : es.all noStar = true := by rfl) (hdb : (x == ("__debug__" : Str)) = false := by decide) :
    SE X (.Call (.Name x p) (e :: es) kws pos) (mDef n ks.length gW mf ma mk) := se_callN F (Nat.le_of_ble_eq_true hj) g.room g.gd (g.gl hg) hm ha hw hall hks h0 h1 hdb
theorem Good.callN0 (g : Good X N sc k fn) {x : Str} {j : Nat} {ps ks : List Str} {mf : FM} {gW : List W → List W → List W} {kws : List Keyword} {mk : AM} {p pos : Pos} (F : DefKw X.prog X.w X.K X.mg X.base x j ps mf 0 ks gW) (hj : Nat.ble j k = true) (hg : sc.names.lookup x = some .globalImplicit) (hm : X.mg x = some (.ref (He.ga X.K x)))
    (hw : SK X kws mk) (hall : (kws.map (·.arg)).all (·.isSome) = true := by rfl) (hks : (kws.map (·.arg)).filterMap id = ks := by rfl) (hdb : (x == ("__debug__" : Str)) = false := by decide) :
    SE X (.Call (.Name x p) [] kws pos) (mDef 0 ks.length gW mf mNil mk) := se_callN0 F (Nat.le_of_ble_eq_true hj) g.room g.gd (g.gl hg) hm hw hall hks hdb
variable {tg iter elt : Expr} {ifs : List Expr} {mi : IM} {t : CT} {tt : TM} {te : EM} {scope : Scope} {own : List (Str × Nat)} {pos : Pos}
/-- a comprehension's target -/
theorem Good.ct1 (g : Good X N sc k fn) {K : PySem.W.Frag} (i : Nat) {x : Str} {p : Pos} (hN : N[i]? = some x) (hl : locB sc x = true) (hf : fn x = true ∨ sc.names.lookup x = some .local) : PG X (.Name x p) ((CT.one i).g K) :=
  pg_name g.nd (by rw [g.N]; exact hN) (by rw [g.sc]; exact loc_of hl) (g.fnl hf)
abbrev gNs (is : List Nat) : TGs := is.foldr (fun i t => gCons (gName i) t) gNil
theorem Good.cts0 (g : Good X N sc k fn) : PGs X [] (gNs []) := pgs_nil
theorem Good.cts (g : Good X N sc k fn) (i : Nat) {x : Str} {p : Pos} {es : List Expr} {is : List Nat} (hN : N[i]? = some x) (hl : locB sc x = true) (hf : fn x = true ∨ sc.names.lookup x = some .local) (h : PGs X es (gNs is)) : PGs X (.Name x p :: es) (gNs (i :: is)) :=
  pgs_cons (g.ct1 (K := X.K) i hN hl hf) h (assignEach_cons rfl)
theorem Good.ctT (g : Good X N sc k fn) {es : List Expr} {is : List Nat} {kk : Nat} {p : Pos} (h : PGs X es (gNs is)) (hl : es.length = is.length := by rfl) (hs : es.all noStar = true := by rfl) : PG X (.Tuple es kk p) ((CT.tup is).g X.K) :=
  pg_tup g.calm h (assignEach_len.trans hl) (assignEach_star hs)
/-- [elt for tg in iter if ..] -/
theorem Good.lc (g : Good X N sc k fn) (own : List (Str × Nat)) (t : CT) (hi : SI X tg iter mi) (ok : BlkOk N sc scope own)
    (hg : ∀ (s : Shared) (H : Hp) (C : Addr) (cl : List (Str × Addr)) (fp : List Addr), Good (X.blk s H scope (compEnvC scope cl C X.env) fp) N (relS scope sc) k (fun x => scope.names.lookup x == some .cell) →
      PG (X.blk s H scope (compEnvC scope cl C X.env) fp) tg (t.g X.K) ∧ STs (X.blk s H scope (compEnvC scope cl C X.env) fp) ifs tt ∧ SE (X.blk s H scope (compEnvC scope cl C X.env) fp) elt te)
    (ho : t.ok (own.map (·.2)) = true) (hs : ∀ env x, foldedSetIterable iter env x = pure x) : SE X (.ListComp elt [⟨tg, iter, ifs, 0⟩] scope pos) (mLc mi t tt te (own.map (·.2))) :=
  se_lc g.calm g.nd hi (by rw [g.N, g.sc]; exact ok) (fun s H C cl fp => (hg s H C cl fp (g.blk scope s H C cl fp)).1)
    ⟨fun s H C cl fp => (hg s H C cl fp (g.blk scope s H C cl fp)).2.1, fun s H C cl fp => (hg s H C cl fp (g.blk scope s H C cl fp)).2.2⟩ ho (hs _)
theorem Good.setLc (g : Good X N sc k fn) (i : Nat) {y : Str} {py spos : Pos} (own : List (Str × Nat)) (t : CT) (hN : N[i]? = some y) (hyl : sc.names.lookup y = some .local) (hi : SI X tg iter mi) (ok : BlkOk N sc scope own)
    (hg : ∀ (s : Shared) (H : Hp) (C : Addr) (cl : List (Str × Addr)) (fp : List Addr), Good (X.blk s H scope (compEnvC scope cl C X.env) fp) N (relS scope sc) k (fun x => scope.names.lookup x == some .cell) →
      PG (X.blk s H scope (compEnvC scope cl C X.env) fp) tg (t.g X.K) ∧ STs (X.blk s H scope (compEnvC scope cl C X.env) fp) ifs tt ∧ SE (X.blk s H scope (compEnvC scope cl C X.env) fp) elt te)
    (ho : t.ok (own.map (·.2)) = true) (hs : ∀ env x, foldedSetIterable iter env x = pure x)
    (hk : sc.kind = .function) (hl : (py.line == pos.line) = true) (ha : (scope.names.any fun (n, k) => n == y && (k == .local || k == .cell)) = false) :
    SS X (.Assign [.Name y py] (.ListComp elt [⟨tg, iter, ifs, 0⟩] scope pos) spos) (sSet i (mLc mi t tt te (own.map (·.2)))) :=
  ss_setLc i g.calm g.nd (by rw [g.N]; exact hN) (by rw [g.sc]; exact hyl) (sw_true (by rw [g.sc]; exact hk) (by rw [g.sc]; exact hyl) hl ha) hi (by rw [g.N, g.sc]; exact ok)
    (fun s H C cl fp => (hg s H C cl fp (g.blk scope s H C cl fp)).1)
    ⟨fun s H C cl fp => (hg s H C cl fp (g.blk scope s H C cl fp)).2.1, fun s H C cl fp => (hg s H C cl fp (g.blk scope s H C cl fp)).2.2⟩ ho (hs _)
end
/-! ### a def keeps its mirror -/
theorem goodF_cx {P : Program} {w : World} {K : PySem.W.Frag} {mg : Str → Option Value} {bs : Heap} {qual : Str} {sc : Scope} {f : Addr} {cdv : Value} {N ps : List Str} {k : Nat} {A : Around} {fr : List Env} {s : Shared} {H : Hp} {E : XK}
    (hG : A.guards = some []) (rm : Room k (A.deeper (envOfC qual sc s.heap.objs.size f cdv))) (S : FnScope N ps sc) (hsm : ∃ mm, bs.Ns sysModules mm) : GoodF (cxOf (L2.CX P w) P w K mg bs N qual sc f cdv A fr s H E) N sc k := by
  have hx : Takes (cxOf (L2.CX P w) P w K mg bs N qual sc f cdv A fr s H E) (fun cls d _ H => E cls d H) := takes_of rfl rfl rfl rfl
  exact ⟨⟨rfl, rfl, rm, hG, rfl, rfl, S.nd, hsm⟩, passes_of rfl, ⟨E, hx⟩, rfl, rfl⟩
theorem defOk_of {P : Program} {w : World} {K : PySem.W.Frag} {mg : Str → Option Value} {bs : Heap} {x qual : Str} {params : Arguments} {bd : List Stmt} {sc : Scope} {dvs : List V} {kws : List (Str × V)} {N ps : List Str} {k : Nat} {body : SM} {n : Nat} {ks : List Str} {gW : List W → List W → List W}
    (F : ∃ fd, FunD K x qual params bd sc dvs kws (He.ga K x) fd) (S : FnScope N ps sc) (hsm : ∃ mm, bs.Ns sysModules mm) (rm : Room (k + 1) callerA) (hb : ∀ X : Cx, X.prog = P → X.w = w → X.K = K → X.mg = mg → X.base = bs → GoodF X N sc k → SSs X bd body)
    (hB : ∀ fd, FunD K x qual params bd sc dvs kws (He.ga K x) fd → Bdg K fd ps n ks gW) : DefKw P w K mg bs x (k + 1) ps (mFn N body) n ks gW := by
  obtain ⟨fd, F⟩ := F
  refine ⟨⟨fd, def_fnG F S hsm hb, F.kp, hB fd F⟩, mFn_len ?_⟩
  have g : GoodF (cxOf (L2.CX P w) P w K mg bs N qual sc 0 .none callerA [] ⟨{}, #[], {}, 1, {}⟩ (fun _ => none) E0) N sc k := goodF_cx rfl (rm.deeper _) S hsm
  exact (hb _ rfl rfl rfl rfl rfl g).len
theorem DefKw.pos {P : Program} {w : World} {K : PySem.W.Frag} {mg : Str → Option Value} {bs : Heap} {x : Str} {k : Nat} {ps : List Str} {mf : FM} (h : DefKw P w K mg bs x k ps mf ps.length [] (fun ws _ => ws)) : DefOk P w K mg bs x k ps mf := ⟨h.ex, h.len⟩
/-! ### what the machine's own names are -/
theorem bt_int : bootBuiltins "int" = some (.type "int") := by decide +kernel
theorem bt_bool : bootBuiltins "bool" = some (.type "bool") := by decide +kernel
theorem bt_str : bootBuiltins "str" = some (.type "str") := by decide +kernel
theorem bt_list : bootBuiltins "list" = some (.type "list") := by decide +kernel
theorem bt_tuple : bootBuiltins "tuple" = some (.type "tuple") := by decide +kernel
theorem bt_dict : bootBuiltins "dict" = some (.type "dict") := by decide +kernel
theorem bt_set : bootBuiltins "set" = some (.type "set") := by decide +kernel
theorem bt_float : bootBuiltins "float" = some (.type "float") := by decide +kernel
theorem bt_len : bootBuiltins "len" = some (.builtin "len") := by decide +kernel
theorem bt_abs : bootBuiltins "abs" = some (.builtin "abs") := by decide +kernel
theorem bt_max : bootBuiltins "max" = some (.builtin "max") := by decide +kernel
theorem bt_min : bootBuiltins "min" = some (.builtin "min") := by decide +kernel
theorem bt_all : bootBuiltins "all" = some (.builtin "all") := by decide +kernel
theorem bt_any : bootBuiltins "any" = some (.builtin "any") := by decide +kernel
theorem bt_divmod : bootBuiltins "divmod" = some (.builtin "divmod") := by decide +kernel
theorem bt_isinstance : bootBuiltins "isinstance" = some (.builtin "isinstance") := by decide +kernel
theorem bt_repr : bootBuiltins "repr" = some (.builtin "repr") := by decide +kernel
theorem bt_sorted : bootBuiltins "sorted" = some (.builtin "sorted") := by decide +kernel
theorem bt_sum : bootBuiltins "sum" = some (.builtin "sum") := by decide +kernel
end Dm
/-! Dm, part 14: what mirrors compute, by rewriting. -/
namespace Dm
open PySem PySem.Spec PyProof.Rows L2
variable [Lams]
section
variable {ρ : Slots} {m m' : Mem} {f : D → D → Option D} {h : D → Option D} {fl : List D → Option D} {ma mb mc me : EM} {mr mk : AM} {ta tb : TM} {a b : SM} {i j n : Nat} {d e : D} {w : W} {ws : List W} {ds : List D} {k : Nat}
@[simp] theorem view_dat : view m (.dat d) = some d := rfl
@[simp] theorem view_hdl : view m (.hdl k) = (m[k]?).bind Cell.d := rfl
@[simp] theorem cd_lst : Cell.d (.lst ds) = some (.lst ds) := rfl
@[simp] theorem cd_dct {es : List (D × D)} : Cell.d (.dct es) = some (.dct es) := rfl
@[simp] theorem cd_obj {c : Str} {fs : List (Str × D)} : Cell.d (.obj c fs) = some (.obj c fs) := rfl
@[simp] theorem rd_eq : rd d m = some (.ok (.dat d), m) := rfl
@[simp] theorem ret_eq {α : Type} (x : α) : Dm.ret x m = some (.ok x, m) := rfl
@[simp] theorem sbd_none {α : Type} (g : α → Mem → SR) : sbd none ρ g = none := rfl
@[simp] theorem mC_ap : mC d ρ m = some (.ok (.dat d), m) := rfl
theorem mVar_ap (hi : ρ[i]? = some (some w)) : mVar i ρ m = some (.ok w, m) := by unfold mVar; rw [hi]; rfl
@[simp] theorem mVar0 {r : Slots} : mVar 0 (some w :: r) m = some (.ok w, m) := rfl
@[simp] theorem mVarS {x : Option W} {r : Slots} : mVar (i + 1) (x :: r) m = mVar i r m := by unfold mVar; rw [List.getElem?_cons_succ]
@[simp] theorem mOp_ap : mOp f ma mb ρ m = bnd (ma ρ m) fun x m1 => bnd (mb ρ m1) fun y m2 => ap2 f x y m2 := rfl
@[simp] theorem ap2_ap {x y : W} : ap2 f x y m = (view m x).bind fun dx => (view m y).bind fun dy => (f dx dy).map fun d => (Out.ok (W.dat d), m) := by
  unfold ap2
  cases view m x with
  | none => rfl
  | some dx =>
    cases view m y with
    | none => rfl
    | some dy => dsimp; cases f dx dy <;> rfl
@[simp] theorem mUn_ap : mUn h ma ρ m = bnd (ma ρ m) fun x m1 => ap1 h x m1 := rfl
@[simp] theorem ap1_ap {x : W} : ap1 h x m = (view m x).bind fun dx => (h dx).map fun d => (Out.ok (W.dat d), m) := by
  unfold ap1
  cases view m x with
  | none => rfl
  | some dx => dsimp; cases h dx <;> rfl
@[simp] theorem mCa_ap : mCa fl mr ρ m = bnd (mr ρ m) fun ws m1 => apL fl ws m1 := rfl
@[simp] theorem apL_ap : apL fl ws m = (views m ws).bind fun ds => (fl ds).map fun d => (Out.ok (W.dat d), m) := by
  unfold apL
  cases views m ws with
  | none => rfl
  | some dx => dsimp; cases fl dx <;> rfl
@[simp] theorem views_nil : views m [] = some [] := rfl
@[simp] theorem views_cons : views m (w :: ws) = (view m w).bind fun d => (views m ws).map (d :: ·) := by
  show (match view m w, views m ws with
    | some d, some ds => some (d :: ds)
    | _, _ => none) = _
  cases view m w with
  | none => rfl
  | some dx => cases views m ws <;> rfl
@[simp] theorem mNil_ap : mNil ρ m = some (.ok [], m) := rfl
@[simp] theorem mCons_ap : mCons ma mr ρ m = bnd (ma ρ m) fun x m1 => bnd (mr ρ m1) fun xs m2 => some (.ok (x :: xs), m2) := rfl
@[simp] theorem dats_nil : dats [] = some [] := rfl
@[simp] theorem dats_dat : dats (.dat d :: ws) = (dats ws).map (d :: ·) := rfl
@[simp] theorem dats_hdl : dats (.hdl k :: ws) = none := rfl
@[simp] theorem mTup_ap : mTup mr ρ m = bnd (mr ρ m) fun ws m1 => (dats ws).bind fun ds => if ds.length ≤ LIM then some (.ok (.dat (.tup ds)), m1) else none := by
  unfold mTup; congr; funext ws m1; cases dats ws <;> rfl
@[simp] theorem mLst_ap : mLst mr ρ m = bnd (mr ρ m) fun ws m1 => (dats ws).bind fun ds => if ds.length ≤ LIM then some (.ok (.dat (.lst ds)), m1) else none := by
  unfold mLst; congr; funext ws m1; cases dats ws <;> rfl
@[simp] theorem mLstH_ap : mLstH mr ρ m = bnd (mr ρ m) fun ws m1 => (dats ws).bind fun ds => if ds.length ≤ LIM then some (.ok (.hdl m1.length), m1 ++ [.lst ds]) else none := by
  unfold mLstH; congr; funext ws m1; cases dats ws <;> rfl
@[simp] theorem LIM_eq : LIM = 1000000 := rfl
@[simp] theorem mTest_ap : mTest ma ρ m = bnd (ma ρ m) wBool := rfl
@[simp] theorem wBool_ap {b : Bool} : wBool (.dat (.bl b)) m = some (.ok b, m) := rfl
@[simp] theorem mNotT_ap : mNotT ta ρ m = bnd (ta ρ m) fun b m1 => some (.ok (!b), m1) := rfl
@[simp] theorem mAndT_ap : mAndT ta tb ρ m = bnd (ta ρ m) fun b m1 => match b with
  | true => tb ρ m1
  | false => some (.ok false, m1) := rfl
@[simp] theorem mOrT_ap : mOrT ta tb ρ m = bnd (ta ρ m) fun b m1 => match b with
  | true => some (.ok true, m1)
  | false => tb ρ m1 := rfl
@[simp] theorem mAnd_ap : mAnd ma mb ρ m = bnd (ma ρ m) fun x m1 => bnd (wBool x m1) fun b m2 => match b with
  | true => mb ρ m2
  | false => some (.ok (.dat (.bl false)), m2) := rfl
@[simp] theorem mOr_ap : mOr ma mb ρ m = bnd (ma ρ m) fun x m1 => bnd (wBool x m1) fun b m2 => match b with
  | true => some (.ok (.dat (.bl true)), m2)
  | false => mb ρ m2 := rfl
@[simp] theorem mIf_ap : mIf ta ma mb ρ m = bnd (ta ρ m) fun b m1 => match b with
  | true => ma ρ m1
  | false => mb ρ m1 := rfl
@[simp] theorem mChain_ap {g : D → D → Option D} : mChain f g ma mb mc ρ m = bnd (ma ρ m) fun x m1 => bnd (mb ρ m1) fun y m2 => bnd (ap2 f x y m2) fun w m3 => bnd (wBool w m3) fun b m4 => match b with
  | true => bnd (mc ρ m4) fun z m5 => ap2 g y z m5
  | false => some (.ok (.dat (.bl false)), m4) := rfl
/-- one statement behind another, by what the first one gave -/
def sThen (x : SR) (b : SM) : SR := match x with
  | some (.nx ρ1, m1) => b ρ1 m1
  | x => x
@[simp] theorem sSeq_ap : sSeq a b ρ m = sThen (a ρ m) b := rfl
@[simp] theorem sThen_nx : sThen (some (.nx ρ, m)) b = b ρ m := rfl
@[simp] theorem sThen_rt : sThen (some (.rt w, m)) b = some (.rt w, m) := rfl
@[simp] theorem sThen_bk : sThen (some (.bk ρ, m)) b = some (.bk ρ, m) := rfl
@[simp] theorem sThen_ct : sThen (some (.ct ρ, m)) b = some (.ct ρ, m) := rfl
@[simp] theorem sThen_ex {c : Str} {fs : List (Str × D)} : sThen (some (.ex c fs ρ, m)) b = some (.ex c fs ρ, m) := rfl
@[simp] theorem sThen_none : sThen none b = none := rfl
/-- the end of a def's body -/
def fEnd (x : SR) : Run W := match x with
  | some (.rt w, m1) => some (.ok w, m1)
  | some (.nx _, m1) => rd .non m1
  | some (.ex c fs _, m1) => some (.ex c fs, m1)
  | _ => none
theorem mFn_ap {N : List Str} {body : SM} : mFn N body ws m = fEnd (body (ws.map some ++ List.replicate (N.length - ws.length) none) m) := rfl
@[simp] theorem fEnd_rt : fEnd (some (.rt w, m)) = some (.ok w, m) := rfl
@[simp] theorem fEnd_nx : fEnd (some (.nx ρ, m)) = some (.ok (.dat .non), m) := rfl
@[simp] theorem fEnd_ex {c : Str} {fs : List (Str × D)} : fEnd (some (.ex c fs ρ, m)) = some (.ex c fs, m) := rfl
@[simp] theorem sNil_ap : sNil ρ m = some (.nx ρ, m) := rfl
@[simp] theorem sIf_ap : sIf ta a b ρ m = sbd (ta ρ m) ρ fun c m1 => match c with
  | true => a ρ m1
  | false => b ρ m1 := rfl
@[simp] theorem sSet_ap : sSet i me ρ m = sbd (me ρ m) ρ fun w m1 => some (.nx (ρ.set i (some w)), m1) := rfl
@[simp] theorem sRet_ap : sRet me ρ m = sbd (me ρ m) ρ fun w m1 => some (.rt w, m1) := rfl
@[simp] theorem sRetN_ap : sRetN ρ m = some (.rt (.dat .non), m) := rfl
@[simp] theorem sPass_ap : sPass ρ m = some (.nx ρ, m) := rfl
@[simp] theorem sCont_ap : sCont ρ m = some (.ct ρ, m) := rfl
@[simp] theorem sBreak_ap : sBreak ρ m = some (.bk ρ, m) := rfl
@[simp] theorem sDrop_ap : sDrop me ρ m = sbd (me ρ m) ρ fun _ m1 => some (.nx ρ, m1) := rfl
@[simp] theorem sAsg_ap {mg : GM} : sAsg me mg ρ m = sbd (me ρ m) ρ fun w m1 => mg w ρ m1 := rfl
@[simp] theorem sPar_ap : sPar i j mr ρ m = sbd (mr ρ m) ρ fun ws m1 => match ws with
  | [v, w] => some (.nx ((ρ.set i (some v)).set j (some w)), m1)
  | _ => none := rfl
@[simp] theorem gSet_ap : gSet i w ρ m = some (.nx (ρ.set i (some w)), m) := rfl
@[simp] theorem gNils_ap : gNils [] ρ m = some (.nx ρ, m) := rfl
@[simp] theorem gConss_ap {g : GM} {gs : List W → Slots → Mem → SR} : gConss g gs (w :: ws) ρ m = (match g w ρ m with
  | some (.nx ρ1, m1) => gs ws ρ1 m1
  | _ => none) := rfl
@[simp] theorem gTupM_ap {gs : List W → Slots → Mem → SR} : gTupM n gs (.dat (.tup ds)) ρ m = if ds.length = n then gs (ds.map .dat) ρ m else none := rfl
@[simp] theorem gIdx_ap {mo mi : EM} {v : D} : gIdx mo mi (.dat v) ρ m = (match mo ρ m with
  | some (.ok (.hdl k), m1) => (match mi ρ m1 with
    | some (.ok wi, m2) => (match view m2 wi, m2[k]? with
      | some di, some c => (match stC c di v with
        | some c' => some (.nx ρ, m2.set k c')
        | none => none)
      | _, _ => none)
    | _ => none)
  | _ => none) := rfl
@[simp] theorem stC_lst {i : Int} {v : D} : stC (.lst ds) (.int i) v = (ixN ds.length i).map fun j => .lst (ds.set j v) := rfl
@[simp] theorem mDef_ap {n nk : Nat} {gW : List W → List W → List W} {mf : FM} : mDef n nk gW mf mr mk ρ m = bnd (mr ρ m) fun ws m1 => bnd (mk ρ m1) fun us m2 => if ws.length = n ∧ us.length = nk then cut m.length (mf (gW ws us) m2) else none := rfl
@[simp] theorem cut_none : cut n none = none := rfl
@[simp] theorem cut_datS : cut n (some (.ok (.dat d), m)) = some (.ok (.dat d), m.take n) := rfl
@[simp] theorem cut_hdlS : cut n (some (.ok (.hdl k), m)) = if k < n then some (.ok (.hdl k), m.take n) else some (.ok (.hdl k), m) := rfl
@[simp] theorem take_same (h : m.length = n) : m.take n = m := by rw [← h]; exact List.take_length
/-! the operations -/
variable {x y : Int} {s t : Str} {p q : Bool} {xs ys : List D}
@[simp] theorem fAdd_int : fAdd (.int x) (.int y) = some (.int (x + y)) := rfl
@[simp] theorem fAdd_str : fAdd (.str s) (.str t) = if s.length + t.length ≤ 1000000 then some (.str (s ++ t)) else none := rfl
@[simp] theorem fAdd_lst : fAdd (.lst xs) (.lst ys) = if xs.length + ys.length ≤ 1000000 then some (.lst (xs ++ ys)) else none := rfl
@[simp] theorem fSub_int : fSub (.int x) (.int y) = some (.int (x - y)) := rfl
@[simp] theorem fMul_int : fMul (.int x) (.int y) = if x.natAbs.log2 + y.natAbs.log2 < 1000000 then some (.int (x * y)) else none := rfl
@[simp] theorem fMul_str : fMul (.str s) (.int y) = if 0 ≤ y ∧ y ≤ 100000 ∧ s.length * y.toNat ≤ 1000000 then some (.str ⟨(List.replicate y.toNat s.cps.toList).flatten.toArray⟩) else none := rfl
@[simp] theorem fMul_lst : fMul (.lst xs) (.int y) = if 0 ≤ y ∧ y ≤ 100000 ∧ xs.length * y.toNat ≤ 1000000 then some (.lst (List.replicate y.toNat xs).flatten) else none := rfl
@[simp] theorem fDiv_int : fDiv (.int x) (.int y) = if 0 < y ∧ y.natAbs.log2 < 9000 then some (.int (x / y)) else none := rfl
@[simp] theorem fMod_int : fMod (.int x) (.int y) = if 0 < y then some (.int (x % y)) else none := rfl
@[simp] theorem fPow_int : fPow (.int x) (.int y) = if 0 ≤ y ∧ y ≤ 1000000 ∧ x.natAbs < 2 ^ 64 then some (.int (x ^ y.toNat)) else none := rfl
@[simp] theorem fEq_int : fEq (.int x) (.int y) = some (.bl (x == y)) := rfl
@[simp] theorem fEq_str : fEq (.str s) (.str t) = some (.bl (s == t)) := rfl
@[simp] theorem fNe_int : fNe (.int x) (.int y) = some (.bl (!(x == y))) := rfl
@[simp] theorem fNe_str : fNe (.str s) (.str t) = some (.bl (!(s == t))) := rfl
@[simp] theorem fEq_bl : fEq (.bl p) (.bl q) = some (.bl (p == q)) := rfl
@[simp] theorem fNe_bl : fNe (.bl p) (.bl q) = some (.bl (!(p == q))) := rfl
@[simp] theorem fLt_int : fLt (.int x) (.int y) = some (.bl (decide (x < y))) := rfl
@[simp] theorem fLt_str : fLt (.str s) (.str t) = some (.bl (ltS s t)) := rfl
@[simp] theorem fLe_int : fLe (.int x) (.int y) = some (.bl (decide (x ≤ y))) := rfl
@[simp] theorem fGt_int : fGt (.int x) (.int y) = some (.bl (decide (y < x))) := rfl
@[simp] theorem fGe_int : fGe (.int x) (.int y) = some (.bl (decide (y ≤ x))) := rfl
@[simp] theorem fIn_str : fIn (.str s) (.str t) = some (.bl (inS s t)) := rfl
@[simp] theorem fNotIn_str : fNotIn (.str s) (.str t) = some (.bl (!inS s t)) := rfl
@[simp] theorem fIs_non : fIs d .non = some (.bl (isNo d)) := rfl
@[simp] theorem fIs_bl : fIs d (.bl p) = some (.bl (decide (isB d = some p))) := rfl
@[simp] theorem fIsNot_non : fIsNot d .non = some (.bl (!isNo d)) := rfl
@[simp] theorem fIsNot_bl : fIsNot d (.bl p) = some (.bl (!decide (isB d = some p))) := rfl
@[simp] theorem fIx_lst : fIx (.lst xs) (.int x) = atI xs x := rfl
@[simp] theorem fIx_tup : fIx (.tup xs) (.int x) = atI xs x := rfl
@[simp] theorem fIx_str : fIx (.str s) (.int x) = if s.length ≤ 1000000 then (atI s.cps.toList x).map fun c => .str ⟨#[c]⟩ else none := rfl
@[simp] theorem fNeg_int : fNeg (.int x) = some (.int (-x)) := rfl
@[simp] theorem fNot_bl : fNot (.bl p) = some (.bl (!p)) := rfl
@[simp] theorem fLen_str : fLen [.str s] = if s.length ≤ 1000000 then some (.int s.length) else none := rfl
@[simp] theorem fLen_lst : fLen [.lst xs] = some (.int xs.length) := rfl
@[simp] theorem fLen_tup : fLen [.tup xs] = some (.int xs.length) := rfl
@[simp] theorem fAbs_int : fAbs [.int x] = some (.int (if x < 0 then -x else x)) := rfl
@[simp] theorem fMax_int : fMax [.int x, .int y] = some (.int (if y > x then y else x)) := rfl
@[simp] theorem fMin_int : fMin [.int x, .int y] = some (.int (if y < x then y else x)) := rfl
@[simp] theorem fInt_int : fInt [.int x] = some (.int x) := rfl
@[simp] theorem fInt_bl : fInt [.bl p] = some (.int (if p then 1 else 0)) := rfl
@[simp] theorem fDivmod_int : fDivmod [.int x, .int y] = if 0 < y ∧ y.natAbs.log2 < 9000 then some (.tup [.int (x / y), .int (x % y)]) else none := rfl
@[simp] theorem fAll_lst : fAll [.lst xs] = (bls xs).map fun bs => .bl (bs.all id) := rfl
@[simp] theorem fAny_lst : fAny [.lst xs] = (bls xs).map fun bs => .bl (bs.any id) := rfl
@[simp] theorem fList_lst : fList [.lst xs] = some (.lst xs) := rfl
@[simp] theorem fList_tup : fList [.tup xs] = some (.lst xs) := rfl
@[simp] theorem fTuple_lst : fTuple [.lst xs] = some (.tup xs) := rfl
@[simp] theorem fTuple_tup : fTuple [.tup xs] = some (.tup xs) := rfl
@[simp] theorem fIsi_ty {n : String} : fIsi [d, .ty n] = (tyN d).bind fun t => (kitB t n).map .bl := rfl
@[simp] theorem fIsi_tup : fIsi [d, .tup xs] = (tyN d).bind fun t => (isiA t xs).map .bl := rfl
@[simp] theorem kit_NoneType_bool : kitB "NoneType" "bool" = some false := by decide +kernel
@[simp] theorem kit_NoneType_int : kitB "NoneType" "int" = some false := by decide +kernel
@[simp] theorem kit_NoneType_str : kitB "NoneType" "str" = some false := by decide +kernel
@[simp] theorem kit_NoneType_tuple : kitB "NoneType" "tuple" = some false := by decide +kernel
@[simp] theorem kit_NoneType_list : kitB "NoneType" "list" = some false := by decide +kernel
@[simp] theorem kit_NoneType_dict : kitB "NoneType" "dict" = some false := by decide +kernel
@[simp] theorem kit_NoneType_set : kitB "NoneType" "set" = some false := by decide +kernel
@[simp] theorem kit_NoneType_float : kitB "NoneType" "float" = some false := by decide +kernel
@[simp] theorem kit_bool_bool : kitB "bool" "bool" = some true := by decide +kernel
@[simp] theorem kit_bool_int : kitB "bool" "int" = some true := by decide +kernel
@[simp] theorem kit_bool_str : kitB "bool" "str" = some false := by decide +kernel
@[simp] theorem kit_bool_tuple : kitB "bool" "tuple" = some false := by decide +kernel
@[simp] theorem kit_bool_list : kitB "bool" "list" = some false := by decide +kernel
@[simp] theorem kit_bool_dict : kitB "bool" "dict" = some false := by decide +kernel
@[simp] theorem kit_bool_set : kitB "bool" "set" = some false := by decide +kernel
@[simp] theorem kit_bool_float : kitB "bool" "float" = some false := by decide +kernel
@[simp] theorem kit_int_bool : kitB "int" "bool" = some false := by decide +kernel
@[simp] theorem kit_int_int : kitB "int" "int" = some true := by decide +kernel
@[simp] theorem kit_int_str : kitB "int" "str" = some false := by decide +kernel
@[simp] theorem kit_int_tuple : kitB "int" "tuple" = some false := by decide +kernel
@[simp] theorem kit_int_list : kitB "int" "list" = some false := by decide +kernel
@[simp] theorem kit_int_dict : kitB "int" "dict" = some false := by decide +kernel
@[simp] theorem kit_int_set : kitB "int" "set" = some false := by decide +kernel
@[simp] theorem kit_int_float : kitB "int" "float" = some false := by decide +kernel
@[simp] theorem kit_str_bool : kitB "str" "bool" = some false := by decide +kernel
@[simp] theorem kit_str_int : kitB "str" "int" = some false := by decide +kernel
@[simp] theorem kit_str_str : kitB "str" "str" = some true := by decide +kernel
@[simp] theorem kit_str_tuple : kitB "str" "tuple" = some false := by decide +kernel
@[simp] theorem kit_str_list : kitB "str" "list" = some false := by decide +kernel
@[simp] theorem kit_str_dict : kitB "str" "dict" = some false := by decide +kernel
@[simp] theorem kit_str_set : kitB "str" "set" = some false := by decide +kernel
@[simp] theorem kit_str_float : kitB "str" "float" = some false := by decide +kernel
@[simp] theorem kit_tuple_bool : kitB "tuple" "bool" = some false := by decide +kernel
@[simp] theorem kit_tuple_int : kitB "tuple" "int" = some false := by decide +kernel
@[simp] theorem kit_tuple_str : kitB "tuple" "str" = some false := by decide +kernel
@[simp] theorem kit_tuple_tuple : kitB "tuple" "tuple" = some true := by decide +kernel
@[simp] theorem kit_tuple_list : kitB "tuple" "list" = some false := by decide +kernel
@[simp] theorem kit_tuple_dict : kitB "tuple" "dict" = some false := by decide +kernel
@[simp] theorem kit_tuple_set : kitB "tuple" "set" = some false := by decide +kernel
@[simp] theorem kit_tuple_float : kitB "tuple" "float" = some false := by decide +kernel
@[simp] theorem kit_list_bool : kitB "list" "bool" = some false := by decide +kernel
@[simp] theorem kit_list_int : kitB "list" "int" = some false := by decide +kernel
@[simp] theorem kit_list_str : kitB "list" "str" = some false := by decide +kernel
@[simp] theorem kit_list_tuple : kitB "list" "tuple" = some false := by decide +kernel
@[simp] theorem kit_list_list : kitB "list" "list" = some true := by decide +kernel
@[simp] theorem kit_list_dict : kitB "list" "dict" = some false := by decide +kernel
@[simp] theorem kit_list_set : kitB "list" "set" = some false := by decide +kernel
@[simp] theorem kit_list_float : kitB "list" "float" = some false := by decide +kernel
@[simp] theorem kit_dict_bool : kitB "dict" "bool" = some false := by decide +kernel
@[simp] theorem kit_dict_int : kitB "dict" "int" = some false := by decide +kernel
@[simp] theorem kit_dict_str : kitB "dict" "str" = some false := by decide +kernel
@[simp] theorem kit_dict_tuple : kitB "dict" "tuple" = some false := by decide +kernel
@[simp] theorem kit_dict_list : kitB "dict" "list" = some false := by decide +kernel
@[simp] theorem kit_dict_dict : kitB "dict" "dict" = some true := by decide +kernel
@[simp] theorem kit_dict_set : kitB "dict" "set" = some false := by decide +kernel
@[simp] theorem kit_dict_float : kitB "dict" "float" = some false := by decide +kernel
@[simp] theorem isiA_nil {t : String} : isiA t [] = some false := rfl
@[simp] theorem isiA_cons {t n : String} {r : List D} : isiA t (.ty n :: r) = (kitB t n).bind fun b => if b = true then some true else isiA t r := by
  show (match kitB t n with
    | some true => some true
    | some false => isiA t r
    | none => none) = _
  cases kitB t n with
  | none => rfl
  | some b => cases b <;> rfl
@[simp] theorem tyN_non : tyN .non = some "NoneType" := rfl
@[simp] theorem tyN_bl : tyN (.bl p) = some "bool" := rfl
@[simp] theorem tyN_int : tyN (.int x) = some "int" := rfl
@[simp] theorem tyN_str : tyN (.str s) = some "str" := rfl
@[simp] theorem tyN_tup : tyN (.tup xs) = some "tuple" := rfl
@[simp] theorem tyN_lst : tyN (.lst xs) = some "list" := rfl
@[simp] theorem tyN_dct {es : List (D × D)} : tyN (.dct es) = some "dict" := rfl
@[simp] theorem isB_bl : isB (.bl p) = some p := rfl
@[simp] theorem isB_int : isB (.int x) = none := rfl
@[simp] theorem isB_str : isB (.str s) = none := rfl
@[simp] theorem isB_non : isB .non = none := rfl
@[simp] theorem isB_tup : isB (.tup xs) = none := rfl
@[simp] theorem isB_lst : isB (.lst xs) = none := rfl
@[simp] theorem isNo_non : isNo .non = true := rfl
@[simp] theorem isNo_bl : isNo (.bl p) = false := rfl
@[simp] theorem isNo_int : isNo (.int x) = false := rfl
@[simp] theorem isNo_str : isNo (.str s) = false := rfl
@[simp] theorem isNo_tup : isNo (.tup xs) = false := rfl
@[simp] theorem isNo_lst : isNo (.lst xs) = false := rfl
@[simp] theorem fRepr_ap : fRepr [d] = if shD 60 d = true ∧ wgt d ≤ 1000000 then some (.str (py d).shown) else none := rfl
@[simp] theorem atI_0 {α : Type} {c : α} {l : List α} : atI (c :: l) 0 = some c := by simp [atI, ixN]
@[simp] theorem atI_1 {α : Type} {c c' : α} {l : List α} : atI (c :: c' :: l) 1 = some c' := by
  simp [atI, ixN]
  rw [if_pos (by omega)]; rfl
@[simp] theorem ixN_2_0 : ixN 2 0 = some 0 := rfl
@[simp] theorem ixN_2_1 : ixN 2 1 = some 1 := rfl
end
end Dm
namespace Dm
open PySem PySem.Spec PyProof.Rows L2
variable [Lams]
theorem inS_one {c : Nat} {z : Str} : inS ⟨#[c]⟩ z = decide (c ∈ z.cps.toList) := StrLaws.found_one z c
theorem bls_map {α : Type} (p : α → Bool) : ∀ l : List α, bls (l.map fun a => D.bl (p a)) = some (l.map p)
  | [] => rfl
  | a :: r => by
    rw [List.map_cons, List.map_cons]
    unfold bls
    rw [bls_map p r]
    rfl
theorem lg {i : Int} (n : Nat) (h0 : 0 ≤ i) (h : i < 2 ^ n) (hn : 0 < n := by decide) : i.natAbs.log2 < n := by
  by_cases hz : i.natAbs = 0
  · rw [hz]; simpa using hn
  · rw [Nat.log2_lt hz]
    have : ((i.natAbs : Nat) : Int) < ((2 ^ n : Nat) : Int) := by
      rw [Int.natAbs_of_nonneg h0]
      simpa using h
    exact Int.ofNat_lt.mp this
theorem getset {m : Mem} {k : Nat} {c : Cell} (h : m[k]? = some c) (c' : Cell) : (m.set k c')[k]? = some c' := by
  have hk : k < m.length := by rw [List.getElem?_eq_some_iff] at h; exact h.1
  exact List.getElem?_set_self hk
end Dm
/-! Dm, part 15: loops and comprehensions by what each turn gives; the pot. -/
namespace Dm
open PySem PySem.Spec PyProof.Rows L2
variable [Lams]
@[simp] theorem mLc_ap {mi : IM} {t : CT} {tt : TM} {te : EM} {vs : List Nat} {ρ : Slots} {m : Mem} : mLc mi t tt te vs ρ m = bnd (mi ρ m) fun ds m1 => if ds.length < 1000000 then (match lcL t tt te ds (wipeS ρ vs) m1 [] with
  | some (ys, m2) => some (.ok (.dat (.lst ys)), m2)
  | none => none) else none := rfl
@[simp] theorem iAny_ap {me : EM} {ρ : Slots} {m : Mem} : iAny me ρ m = bnd (me ρ m) itemsOf := rfl
@[simp] theorem iRange1_ap {me : EM} {ρ : Slots} {m : Mem} : iRange1 me ρ m = bnd (me ρ m) fun w m1 => match w with
  | .dat (.int j) => if j < 1000000 ∧ -1000000 < j then some (.ok (rangeD 0 j.toNat), m1) else none
  | _ => none := rfl
theorem rangeD_length {lo : Int} {n : Nat} : (rangeD lo n).length = n := by simp [rangeD]
theorem signsD_length {z : Str} : (signsD z).length = z.length := by simp [signsD, Str.length]
theorem lcL_one {i : Nat} {te : EM} {d : D} {r : List D} {ρ : Slots} {m : Mem} {acc : List D} : lcL (.one i) tYesM te (d :: r) ρ m acc = (match te (ρ.set i (some (.dat d))) m with
  | some (.ok (.dat y), m2) => lcL (.one i) tYesM te r ρ (m2.take m.length) (acc ++ [y])
  | _ => none) := rfl
/-- each item gives something, the memory aside -/
theorem lcEx {i n : Nat} {te : EM} {ρ : Slots} {I : Mem → Prop} {P : D → D → Prop} (hI : ∀ m, I m → m.length = n) : ∀ {ds : List D}, (∀ d ∈ ds, ∀ m, I m → ∃ y m2, te (ρ.set i (some (.dat d))) m = some (.ok (.dat y), m2) ∧ P d y ∧ I m2) →
    ∀ {m : Mem} {acc : List D}, I m → ∃ ys m', lcL (.one i) tYesM te ds ρ m acc = some (acc ++ ys, m') ∧ ys.length = ds.length ∧ Paired P ds ys ∧ I m'
  | [], _, m, acc, h => ⟨[], m, by rw [List.append_nil]; rfl, rfl, .nil, h⟩
  | d :: r, st, m, acc, h => by
    obtain ⟨y, m2, e, p, h2⟩ := st d List.mem_cons_self m h
    obtain ⟨ys, m', e2, l2, p2, h3⟩ := lcEx hI (ds := r) (fun d hd => st d (List.mem_cons_of_mem _ hd)) (m := m2) (acc := acc ++ [y]) h2
    refine ⟨y :: ys, m', ?_, congrArg (· + 1) l2, .cons p p2, h3⟩
    rw [lcL_one, e]
    dsimp only
    have tk : m2.take m.length = m2 := by rw [hI m h, ← hI m2 h2]; exact List.take_length
    rw [tk, e2, List.append_assoc]
    rfl
/-- each item gives g of it, nothing is changed -/
theorem lcMap {i : Nat} {te : EM} {ρ : Slots} {m : Mem} {g : D → D} : ∀ {ds : List D}, (∀ d ∈ ds, te (ρ.set i (some (.dat d))) m = some (.ok (.dat (g d)), m)) → ∀ {acc : List D}, lcL (.one i) tYesM te ds ρ m acc = some (acc ++ ds.map g, m)
  | [], _, acc => by rw [List.map_nil, List.append_nil]; rfl
  | d :: r, st, acc => by
    rw [lcL_one, st d List.mem_cons_self]
    dsimp only
    rw [List.take_length, lcMap (ds := r) (fun d hd => st d (List.mem_cons_of_mem _ hd)), List.append_assoc]
    rfl
@[simp] theorem sFor_ap {mi : IM} {mg : GM} {body : SM} {ρ : Slots} {m : Mem} : sFor mi mg body ρ m = sbd (mi ρ m) ρ fun ds m1 => forL mg body ds ρ m1 := rfl
/-- every turn goes on to the next -/
theorem forAll {mg : GM} {body : SM} {I : Slots → Mem → Prop} : ∀ {ds : List D}, (∀ d ∈ ds, ∀ ρ m, I ρ m → ∃ ρ1 m1, mg (.dat d) ρ m = some (.nx ρ1, m1) ∧ ∃ ρ2 m2, (body ρ1 m1 = some (.nx ρ2, m2) ∨ body ρ1 m1 = some (.ct ρ2, m2)) ∧ I ρ2 m2) →
    ∀ {ρ : Slots} {m : Mem}, I ρ m → ∃ ρ' m', forL mg body ds ρ m = some (.nx ρ', m') ∧ I ρ' m'
  | [], _, ρ, m, h => ⟨ρ, m, rfl, h⟩
  | d :: r, st, ρ, m, h => by
    obtain ⟨ρ1, m1, e1, ρ2, m2, e2, h2⟩ := st d List.mem_cons_self ρ m h
    obtain ⟨ρ', m', e3, h3⟩ := forAll (ds := r) (fun d hd => st d (List.mem_cons_of_mem _ hd)) h2
    refine ⟨ρ', m', ?_, h3⟩
    unfold forL
    rw [e1]
    rcases e2 with e2 | e2
    · dsimp only; rw [e2]; exact e3
    · dsimp only; rw [e2]; exact e3
/-! ### the pot: own digits, mixed numbers -/
structure Pot (p : Int) (k : Nat) (m : Mem) : Prop where
  ex : ∃ a b, m[k]? = some (.lst [.int a, .int b]) ∧ 0 ≤ a ∧ 0 ≤ b ∧ b < p
/-- a draw's mirror -/
def drawM (c1 c2 p q t : Int) : SM := sSeq (sIf (mTest (mOp fGt (mOp fIx (mVar 0) (mC (.int 0))) (mC (.int 0)))) (sSeq (sAsg (mCa fDivmod (mCons (mOp fIx (mVar 0) (mC (.int 0))) (mCons (mVar 1) (mNil)))) (gTupM 2 (gConss (gIdx (mVar 0) (mC (.int 0))) (gConss (gSet 2) (gNils)))))
  (sRet (mVar 2))) (sNil))
  (sSeq (sAsg (mOp fMod (mCa fInt (mCons (mOp fAdd (mOp fMul (mOp fIx (mVar 0) (mC (.int 1))) (mC (.int c1))) (mC (.int c2))) (mNil))) (mC (.int p))) (gIdx (mVar 0) (mC (.int 1))))
  (sRet (mOp fMod (mCa fInt (mCons (mOp fDiv (mOp fMod (mCa fInt (mCons (mOp fMul (mOp fIx (mVar 0) (mC (.int 1))) (mOp fIx (mVar 0) (mC (.int 1)))) (mNil))) (mC (.int q))) (mC (.int t))) (mNil))) (mVar 1))))
/-- the others are as before -/
structure Bes (k : Nat) (m m' : Mem) : Prop where
  len : m'.length = m.length
  oth : ∀ j, j ≠ k → m'[j]? = m[j]?
theorem Bes.refl {k : Nat} {m : Mem} : Bes k m m := ⟨rfl, fun _ _ => rfl⟩
theorem Bes.trans {k : Nat} {m m1 m2 : Mem} (a : Bes k m m1) (b : Bes k m1 m2) : Bes k m m2 := ⟨b.len.trans a.len, fun j h => (b.oth j h).trans (a.oth j h)⟩
theorem Bes.take {k : Nat} {m m' : Mem} (a : Bes k m m') : m'.take m.length = m' := by rw [← a.len]; exact List.take_length
theorem bes_set {k : Nat} {m : Mem} {c : Cell} : Bes k m (m.set k c) := ⟨List.length_set, fun j h => List.getElem?_set_ne (Ne.symm h)⟩
theorem draw_ok {c1 c2 p q t : Int} {N : List Str} (hN : N.length = 3) (hc : c1.natAbs.log2 < 1000) (hp : 0 < p) (hp2 : p < 2 ^ 64) (hq : 0 < q) (ht : 0 < t) (ht2 : t.natAbs.log2 < 9000) {m : Mem} {k : Nat} {n : Int} (h : Pot p k m) (hn : 0 < n) (hn2 : n.natAbs.log2 < 9000) :
    ∃ r m', mFn N (drawM c1 c2 p q t) [.hdl k, .dat (.int n)] m = some (.ok (.dat (.int r)), m') ∧ 0 ≤ r ∧ r < n ∧ Pot p k m' ∧ Bes k m m' := by
  obtain ⟨a, b, h, ha, hb, hb2⟩ := h.ex
  by_cases h0 : 0 < a
  · refine ⟨a % n, m.set k (.lst [.int (a / n), .int b]), ?_, Int.emod_nonneg _ (by omega), Int.emod_lt_of_pos _ hn, ⟨a / n, b, getset h _, Int.ediv_nonneg ha (by omega), hb, hb2⟩, bes_set⟩
    simp [drawM, mFn_ap, hN, h, h0, hn, hn2]
  · have ha0 : a = 0 := by omega
    subst ha0
    have l1 : b.natAbs.log2 < 64 := lg 64 hb (by omega)
    have b1 := Int.emod_nonneg (b * c1 + c2) (show p ≠ 0 by omega)
    have b2 := Int.emod_lt_of_pos (b * c1 + c2) hp
    generalize hb' : (b * c1 + c2) % p = b' at b1 b2
    have l2 : b'.natAbs.log2 < 64 := lg 64 b1 (by omega)
    have d1 : b.natAbs.log2 + c1.natAbs.log2 < 1000000 := by omega
    have d2 : b'.natAbs.log2 + b'.natAbs.log2 < 1000000 := by omega
    refine ⟨(b' * b') % q / t % n, m.set k (.lst [.int 0, .int b']), ?_, Int.emod_nonneg _ (by omega), Int.emod_lt_of_pos _ hn, ⟨0, b', getset h _, by decide, b1, b2⟩, bes_set⟩
    simp [drawM, mFn_ap, hN, h, hn, getset h, hb', d1, d2, hp, hq, ht, ht2]
end Dm
/-! Dm, part 16: what the laws have alike: the pot of a cell, a pick, the round over the cells. -/
namespace Dm
open PySem PySem.Spec PyProof.Rows L2
variable [Lams]
def potM (u v p w r s q : Int) : SM := sSeq (sSet 2 (mOp fAdd (mOp fMul (mC (.int u)) (mVar 1)) (mC (.int v))))
  (sSeq (sIf (mTest (mOp fLt (mVar 1) (mCa fLen (mCons (mVar 0) (mNil))))) (sSet 2 (mCa fAbs (mCons (mOp fIx (mVar 0) (mVar 1)) (mNil)))) (sNil))
  (sRet (mLstH (mCons (mCa fMax (mCons (mC (.int 0)) (mCons (mOp fSub (mVar 2) (mOp fPow (mC (.int 10)) (mC (.int 18)))) (mNil)))) (mCons (mOp fAdd (mOp fMod (mOp fMul (mCa fInt (mCons (mOp fAdd (mOp fMod (mCa fInt (mCons (mVar 2) (mNil))) (mC (.int p))) (mC (.int w))) (mNil))) (mOp fPow (mOp fAdd (mOp fMul (mC (.int r)) (mVar 1)) (mC (.int s))) (mC (.int 3)))) (mC (.int q))) (mC (.int 1))) (mNil))))))
theorem atI_map {ns : List Int} {at_ : Int} (h0 : 0 ≤ at_) (h1 : at_ < ns.length) : ∃ z, atI (ns.map D.int) at_ = some (.int z) := by
  unfold atI ixN
  rw [if_pos h0, if_pos (by rw [List.length_map]; exact h1)]
  have hl : at_.toNat < ns.length := by omega
  refine ⟨ns[at_.toNat], ?_⟩
  show (ns.map D.int)[at_.toNat]? = _
  rw [List.getElem?_map, List.getElem?_eq_getElem hl]
  rfl
/-- what is made of a cell -/
theorem pot_end {u v p w r s q P : Int} (hp : 0 < p) (hp2 : p < 2 ^ 40) (hw : 0 ≤ w) (hw2 : w < 1000) (hr : 0 ≤ r) (hr2 : r < 100) (hs : 0 ≤ s) (hs2 : s < 100) (hq : 0 < q) (hq2 : q < P) {m : Mem} {sc at_ z : Int} {x : Option W} (h0 : 0 ≤ at_) (h1 : at_ < 1000) :
    ∃ a b, sRet (mLstH (mCons (mCa fMax (mCons (mC (.int 0)) (mCons (mOp fSub (mVar 2) (mOp fPow (mC (.int 10)) (mC (.int 18)))) (mNil)))) (mCons (mOp fAdd (mOp fMod (mOp fMul (mCa fInt (mCons (mOp fAdd (mOp fMod (mCa fInt (mCons (mVar 2) (mNil))) (mC (.int p))) (mC (.int w))) (mNil))) (mOp fPow (mOp fAdd (mOp fMul (mC (.int r)) (mVar 1)) (mC (.int s))) (mC (.int 3)))) (mC (.int q))) (mC (.int 1))) (mNil))))
      [x, some (.dat (.int at_)), some (.dat (.int z))] m = some (.rt (.hdl m.length), m ++ [.lst [.int a, .int b]]) ∧ 0 ≤ a ∧ 0 ≤ b ∧ b < P := by
  have t1 : 0 ≤ r * at_ := Int.mul_nonneg hr h0
  have t2 : r * at_ ≤ 100 * 1000 := Int.mul_le_mul (by omega) (by omega) h0 (by omega)
  have e1 : (r * at_ + s).natAbs < 2 ^ 64 := by omega
  have e2 : 0 ≤ z % p + w := by have := Int.emod_nonneg z (show p ≠ 0 by omega); omega
  have e3 : z % p + w < 2 ^ 41 := by have := Int.emod_lt_of_pos z hp; omega
  have e4 : (z % p + w).natAbs.log2 < 41 := lg 41 e2 e3
  have e5 : ((r * at_ + s) ^ 3).natAbs.log2 < 60 := by
    refine lg 60 (Int.pow_nonneg (by omega)) ?_
    have c : r * at_ + s ≤ 2 ^ 18 := by omega
    have c0 : 0 ≤ r * at_ + s := by omega
    generalize r * at_ + s = y at c c0
    have : y ^ 3 = y * y * y := by rw [Int.pow_succ, Int.pow_succ, Int.pow_succ, Int.pow_zero, Int.one_mul]
    rw [this]
    have d1 : y * y ≤ 2 ^ 18 * 2 ^ 18 := Int.mul_le_mul c c c0 (by decide)
    have d2 : y * y * y ≤ 2 ^ 18 * 2 ^ 18 * 2 ^ 18 := Int.mul_le_mul d1 c c0 (by decide)
    have : (2 : Int) ^ 18 * 2 ^ 18 * 2 ^ 18 < 2 ^ 60 := by decide
    omega
  have e6 : (z % p + w).natAbs.log2 + ((r * at_ + s) ^ 3).natAbs.log2 < 1000000 := by omega
  have e7 := Int.emod_nonneg ((z % p + w) * (r * at_ + s) ^ 3) (show q ≠ 0 by omega)
  have e8 := Int.emod_lt_of_pos ((z % p + w) * (r * at_ + s) ^ 3) hq
  have c1 : r.natAbs.log2 < 10 := lg 10 hr (by omega)
  have c2 : at_.natAbs.log2 < 10 := lg 10 h0 (by omega)
  have c3 : r.natAbs.log2 + at_.natAbs.log2 < 1000000 := by omega
  refine ⟨(if z - 10 ^ 18 > 0 then z - 10 ^ 18 else 0), (z % p + w) * (r * at_ + s) ^ 3 % q + 1, ?_, by split <;> omega, by omega, by omega⟩
  rw [Int.natAbs_pow] at e6
  simp [e1, e6, hp, hq, c3]
theorem pot_ok {u v p w r s q P : Int} {N : List Str} (hN : N.length = 3) (hu : 0 ≤ u) (hu2 : u < 1000) (hp : 0 < p) (hp2 : p < 2 ^ 40) (hw : 0 ≤ w) (hw2 : w < 1000) (hr : 0 ≤ r) (hr2 : r < 100) (hs : 0 ≤ s) (hs2 : s < 100) (hq : 0 < q) (hq2 : q < P)
    {m : Mem} {ns : List Int} {at_ : Int} (h0 : 0 ≤ at_) (h1 : at_ < 1000) :
    ∃ a b, mFn N (potM u v p w r s q) [.dat (.lst (ns.map .int)), .dat (.int at_)] m = some (.ok (.hdl m.length), m ++ [.lst [.int a, .int b]]) ∧ 0 ≤ a ∧ 0 ≤ b ∧ b < P := by
  have c1 : u.natAbs.log2 < 10 := lg 10 hu (by omega)
  have c2 : at_.natAbs.log2 < 10 := lg 10 h0 (by omega)
  have c3 : u.natAbs.log2 + at_.natAbs.log2 < 1000000 := by omega
  by_cases hl : at_ < (ns.length : Int)
  · obtain ⟨z, hz⟩ := atI_map h0 hl
    obtain ⟨a, b, e, q1, q2, q3⟩ := pot_end (u := u) (v := v) (sc := 0) (x := some (.dat (.lst (ns.map .int)))) (z := if z < 0 then -z else z) (m := m) hp hp2 hw hw2 hr hr2 hs hs2 hq hq2 h0 h1
    refine ⟨a, b, ?_, q1, q2, q3⟩
    rw [mFn_ap, potM]
    simp only [hN, List.map_cons, List.map_nil, List.length_cons, List.length_nil]
    have st : ∀ (b1 b2 : SM) (ρ ρ1 ρ2 : Slots) (m : Mem), b1 ρ m = some (.nx ρ1, m) → b2 ρ1 m = some (.nx ρ2, m) → ∀ b3, sSeq b1 (sSeq b2 b3) ρ m = b3 ρ2 m := fun b1 b2 ρ ρ1 ρ2 m h1 h2 b3 => by
      rw [sSeq_ap, h1, sThen_nx, sSeq_ap, h2, sThen_nx]
    rw [st _ _ _ [some (.dat (.lst (ns.map .int))), some (.dat (.int at_)), some (.dat (.int (u * at_ + v)))] [some (.dat (.lst (ns.map .int))), some (.dat (.int at_)), some (.dat (.int (if z < 0 then -z else z)))] m (by simp [c3]) (by simp [hl, hz]), e]
    rfl
  · obtain ⟨a, b, e, q1, q2, q3⟩ := pot_end (u := u) (v := v) (sc := 0) (x := some (.dat (.lst (ns.map .int)))) (z := u * at_ + v) (m := m) hp hp2 hw hw2 hr hr2 hs hs2 hq hq2 h0 h1
    refine ⟨a, b, ?_, q1, q2, q3⟩
    rw [mFn_ap, potM]
    simp only [hN, List.map_cons, List.map_nil, List.length_cons, List.length_nil]
    have st : ∀ (b1 b2 : SM) (ρ ρ1 ρ2 : Slots) (m : Mem), b1 ρ m = some (.nx ρ1, m) → b2 ρ1 m = some (.nx ρ2, m) → ∀ b3, sSeq b1 (sSeq b2 b3) ρ m = b3 ρ2 m := fun b1 b2 ρ ρ1 ρ2 m h1 h2 b3 => by
      rw [sSeq_ap, h1, sThen_nx, sSeq_ap, h2, sThen_nx]
    rw [st _ _ _ [some (.dat (.lst (ns.map .int))), some (.dat (.int at_)), some (.dat (.int (u * at_ + v)))] [some (.dat (.lst (ns.map .int))), some (.dat (.int at_)), some (.dat (.int (u * at_ + v)))] m (by simp [c3]) (by simp [hl]), e]
    rfl
/-- some[draw(pot, len(some))] -/
def pickM (F : FM) : SM := sRet (mOp fIx (mVar 1) (mDef 2 0 (fun ws _ => ws) F (mCons (mVar 0) (mCons (mCa fLen (mCons (mVar 1) (mNil))) (mNil))) mNil))
/-- what a draw does -/
def DrawOk (p : Int) (F : FM) : Prop := ∀ {m : Mem} {k : Nat} {n : Int}, Pot p k m → 0 < n → n.natAbs.log2 < 9000 → ∃ r m', F [.hdl k, .dat (.int n)] m = some (.ok (.dat (.int r)), m') ∧ 0 ≤ r ∧ r < n ∧ Pot p k m' ∧ Bes k m m'
theorem atI_in {α : Type} {xs : List α} {r : Int} (h0 : 0 ≤ r) (h1 : r < xs.length) : ∃ c, atI xs r = some c ∧ c ∈ xs := by
  have hl : r.toNat < xs.length := by omega
  refine ⟨xs[r.toNat], ?_, List.getElem_mem hl⟩
  unfold atI ixN
  rw [if_pos h0, if_pos h1]
  exact List.getElem?_eq_getElem hl
theorem lg_len {n : Nat} (h : n ≤ 1000000) : ((n : Int)).natAbs.log2 < 9000 := by
  have := lg (i := (n : Int)) 20 (by omega) (by omega)
  omega
theorem pick_str {p : Int} {F : FM} {N : List Str} (hN : N.length = 2) (hF : DrawOk p F) {m : Mem} {k : Nat} {z : Str} (h : Pot p k m) (hz : 0 < z.length) (hz2 : z.length ≤ 1000000) :
    ∃ c m', mFn N (pickM F) [.hdl k, .dat (.str z)] m = some (.ok (.dat (.str ⟨#[c]⟩)), m') ∧ c ∈ z.cps.toList ∧ Pot p k m' ∧ Bes k m m' := by
  obtain ⟨r, m', e, r0, r1, hp, hb⟩ := hF (m := m) (k := k) (n := (z.length : Int)) h (by omega) (lg_len hz2)
  obtain ⟨c, hc, hm⟩ := atI_in (xs := z.cps.toList) r0 (by simpa [Str.length] using r1)
  refine ⟨c, m', ?_, hm, hp, hb⟩
  simp [mFn_ap, pickM, hN, hz2, e, hb.take, hc]
theorem pick_lst {p : Int} {F : FM} {N : List Str} (hN : N.length = 2) (hF : DrawOk p F) {m : Mem} {k : Nat} {xs : List D} (h : Pot p k m) (hz : 0 < xs.length) (hz2 : xs.length ≤ 1000000) :
    ∃ d m', mFn N (pickM F) [.hdl k, .dat (.lst xs)] m = some (.ok (.dat d), m') ∧ d ∈ xs ∧ Pot p k m' ∧ Bes k m m' := by
  obtain ⟨r, m', e, r0, r1, hp, hb⟩ := hF (m := m) (k := k) (n := (xs.length : Int)) h (by omega) (lg_len hz2)
  obtain ⟨c, hc, hm⟩ := atI_in (xs := xs) r0 r1
  refine ⟨c, m', ?_, hm, hp, hb⟩
  simp [mFn_ap, pickM, hN, e, hb.take, hc]
theorem pick_tup {p : Int} {F : FM} {N : List Str} (hN : N.length = 2) (hF : DrawOk p F) {m : Mem} {k : Nat} {xs : List D} (h : Pot p k m) (hz : 0 < xs.length) (hz2 : xs.length ≤ 1000000) :
    ∃ d m', mFn N (pickM F) [.hdl k, .dat (.tup xs)] m = some (.ok (.dat d), m') ∧ d ∈ xs ∧ Pot p k m' ∧ Bes k m m' := by
  obtain ⟨r, m', e, r0, r1, hp, hb⟩ := hF (m := m) (k := k) (n := (xs.length : Int)) h (by omega) (lg_len hz2)
  obtain ⟨c, hc, hm⟩ := atI_in (xs := xs) r0 r1
  refine ⟨c, m', ?_, hm, hp, hb⟩
  simp [mFn_ap, pickM, hN, e, hb.take, hc]
/-! ### the round over the cells -/
def roundM (FR FP : FM) (me : EM) : SM := sRet (mCa fAll (mCons (mLc (iRange1 me) (.one 1) (tYesM) (mDef 1 0 (fun ws _ => ws) FR (mCons (mDef 2 0 (fun ws _ => ws) FP (mCons (mVar 0) (mCons (mVar 1) (mNil))) mNil) (mNil)) mNil) [1]) (mNil)))
def PotOk (p : Int) (F : FM) : Prop := ∀ {m : Mem} {ns : List Int} {at_ : Int}, 0 ≤ at_ → at_ < 1000 → ∃ a b, F [.dat (.lst (ns.map .int)), .dat (.int at_)] m = some (.ok (.hdl m.length), m ++ [.lst [.int a, .int b]]) ∧ 0 ≤ a ∧ 0 ≤ b ∧ b < p
theorem bls_true : ∀ n : Nat, bls (List.replicate n (.bl true)) = some (List.replicate n true)
  | 0 => rfl
  | n + 1 => by
    rw [List.replicate_succ, List.replicate_succ]
    unfold bls
    rw [bls_true n]
    rfl
theorem round_ok {p : Int} {FR FP : FM} {me : EM} {N : List Str} (hN : N.length = 2) (hP : PotOk p FP) (hR : ∀ {m : Mem}, Pot p 0 m → m.length = 1 → ∃ m', FR [.hdl 0] m = some (.ok (.dat (.bl true)), m')) {ns : List Int} {j : Int} (hj : j < 1000) (hj0 : 0 ≤ j)
    (hme : me [some (.dat (.lst (ns.map .int))), none] [] = some (.ok (.dat (.int j)), [])) : ∃ m', mFn N (roundM FR FP me) [.dat (.lst (ns.map .int))] [] = some (.ok (.dat (.bl true)), m') := by
  refine ⟨[], ?_⟩
  have key : lcL (.one 1) tYesM (mDef 1 0 (fun ws _ => ws) FR (mCons (mDef 2 0 (fun ws _ => ws) FP (mCons (mVar 0) (mCons (mVar 1) (mNil))) mNil) (mNil)) mNil) (rangeD 0 j.toNat) [some (.dat (.lst (ns.map .int))), none] [] [] = some ((rangeD 0 j.toNat).map fun _ => .bl true, []) := by
    have := lcMap (i := 1) (te := mDef 1 0 (fun ws _ => ws) FR (mCons (mDef 2 0 (fun ws _ => ws) FP (mCons (mVar 0) (mCons (mVar 1) (mNil))) mNil) (mNil)) mNil) (ρ := [some (.dat (.lst (ns.map .int))), none]) (m := []) (g := fun _ => .bl true) (ds := rangeD 0 j.toNat) (fun d hd => ?_) (acc := [])
    · exact this
    · obtain ⟨i, hi, rfl⟩ := List.mem_map.mp hd
      have hi' := List.mem_range.mp hi
      obtain ⟨a, b, e, a0, b0, b1⟩ := hP (m := []) (ns := ns) (at_ := 0 + (i : Int)) (by omega) (by omega)
      obtain ⟨m', e2⟩ := hR (m := [.lst [.int a, .int b]]) ⟨a, b, rfl, a0, b0, b1⟩ rfl
      have e' : FP [.dat (.lst (ns.map .int)), .dat (.int (0 + (i : Int)))] [] = some (.ok (.hdl 0), [.lst [.int a, .int b]]) := e
      simp only [Int.zero_add] at e'
      simp [e', e2]
  have w : wipeS [some (W.dat (.lst (ns.map .int))), none] [1] = [some (.dat (.lst (ns.map .int))), none] := rfl
  have b : bls ((rangeD 0 j.toNat).map fun _ => D.bl true) = some (List.replicate j.toNat true) := by
    rw [List.map_const', rangeD_length]
    exact bls_true _
  have l : (rangeD 0 j.toNat).length < 1000000 := by rw [rangeD_length]; omega
  simp only [mFn_ap, roundM, hN, List.map_cons, List.map_nil, List.length_cons, List.length_nil]
  have r1 : List.replicate (2 - 1) (none : Option W) = [none] := rfl
  simp [hme, w, key, b, l, show j < 1000000 by omega, show -1000000 < j by omega]
end Dm
/-! Dm, part 17: handles frozen, methods of lists. -/
namespace Dm
open PySem PySem.Spec PyProof.Rows L2
open Evl (Ex)
variable [Lams]
/-! ### a handle's object is frozen: it is data from here on -/
theorem Cell.d_live {c : Cell} {d : D} (h : c.d = some d) : c.isDead = false := by cases c <;> first | rfl | cases h
theorem Wd.killAs {K : PySem.W.Frag} {B H : Hp} {al : Pl} {m : Mem} {k : Nat} {c : Cell} {d : D} {o o' : HO} (wd : Wd K B al m H) (hk : m[k]? = some c) (hd : c.d = some d) (ho : H (al k) = some o) (hu : undict o' = true) : Wd K (upd B (al k) o') al (m.set k .dead) (upd H (al k) o') ∧ Ex B (upd B (al k) o') := by
  have live := Cell.d_live hd
  obtain ⟨hb, _⟩ := wd.cell k c hk live
  have hf := wd.fc k c hk live
  have lk : k < m.length := by rw [List.getElem?_eq_some_iff] at hk; exact hk.1
  have at_ : ∀ j c1, (m.set k .dead)[j]? = some c1 → c1.isDead = false → m[j]? = some c1 ∧ j ≠ k := fun j c1 e h => by
    by_cases z : k = j
    · subst z
      rw [List.getElem?_set_self lk] at e
      cases e; cases h
    · rw [List.getElem?_set_ne z] at e
      exact ⟨e, fun w => z w.symm⟩
  have wd0 : Wd K B al (m.set k .dead) H := ⟨wd.ext, fun j c1 e h => wd.cell j c1 (at_ j c1 e h).1 h, fun i j c1 c2 f1 f2 h1 h2 w => wd.inj i j c1 c2 (at_ i c1 f1 h1).1 (at_ j c2 f2 h2).1 h1 h2 w, wd.fx, wd.fb, fun j c1 e h => wd.fc j c1 (at_ j c1 e h).1 h, wd.lk, wd.tb⟩
  exact wd0.freezeAs ho hb hf (fun j c1 e h w => (at_ j c1 e h).2 (wd.inj j k c1 c (at_ j c1 e h).1 hk h live w)) hu fun ps z => wd.notTab hk live ps (by rw [ho, z])
/-- a dict's handle: what stands there -/
def Cell.isDct : Cell → Bool
  | .dct _ => true
  | _ => false
theorem Wd.kill {K : PySem.W.Frag} {B H : Hp} {al : Pl} {m : Mem} {k : Nat} {c : Cell} {d : D} (wd : Wd K B al m H) (hk : m[k]? = some c) (hd : c.d = some d) (hn : c.isDct = false) : ∃ B', Ex B B' ∧ Wd K B' al (m.set k .dead) H ∧ Rep K B' (.ref (al k)) d := by
  have live := Cell.d_live hd
  obtain ⟨hb, hc⟩ := wd.cell k c hk live
  cases c with
  | dead => cases live
  | lst ds =>
    cases hd
    obtain ⟨vs, z, r⟩ := hc
    obtain ⟨w, x⟩ := wd.killAs (o' := .lst vs) hk rfl z rfl
    rw [upd_self z] at w
    exact ⟨_, x, w, .lst (.inl (.inl upd_same)) (r.mono x)⟩
  | dct es => cases hn
  | obj cc fs =>
    cases hd
    obtain ⟨dx, gs, z, r⟩ := hc
    obtain ⟨w, x⟩ := wd.killAs (o' := .ins (He.ga K cc) dx gs) hk rfl z rfl
    rw [upd_self z] at w
    exact ⟨_, x, w, .obj upd_same (r.mono x)⟩
  | lstH ws => cases hd
theorem Wd.killD {K : PySem.W.Frag} {B H : Hp} {al : Pl} {m : Mem} {k : Nat} {c : Cell} {d : D} (wd : Wd K B al m H) (hk : m[k]? = some c) (hd : c.d = some d) (hn : c.isDct = true) : ∃ u, H (al k) = some u ∧ L2.Mut (some u) ∧ ∀ od, ∃ B', Ex B B' ∧ Wd K B' al (m.set k .dead) (upd H (al k) (.frz od u)) ∧ Rep K B' (.ref (al k)) d := by
  have live := Cell.d_live hd
  obtain ⟨hb, hc⟩ := wd.cell k c hk live
  cases c with
  | dct es =>
    cases hd
    rcases hc with ⟨kvs, z, r⟩ | ⟨kvs, z, r⟩
    · refine ⟨_, z, trivial, fun od => ?_⟩
      obtain ⟨w, x⟩ := wd.killAs (o' := .frz od (.dK kvs)) hk rfl z rfl
      exact ⟨_, x, w, .dct (.inr ⟨od, upd_same⟩) (r.mono x)⟩
    · refine ⟨_, z, trivial, fun od => ?_⟩
      obtain ⟨w, x⟩ := wd.killAs (o' := .frz od (.dT kvs)) hk rfl z rfl
      exact ⟨_, x, w, .dctT (.inr ⟨od, upd_same⟩) (r.mono x)⟩
  | _ => cases hn
/-- the value of e, as data from here on -/
def mFrz (me : EM) : EM := fun ρ m => bnd (me ρ m) fun w m1 => match w with
  | .dat d => some (.ok (.dat d), m1)
  | .hdl k => (match m1[k]? with
    | some c => (match c.d with
      | some d => some (.ok (.dat d), m1.set k .dead)
      | none => none)
    | none => none)
  | .clo _ _ => none
theorem se_frz {X : Cx} {e : Expr} {me : EM} (he : SE X e me) : SE X e (mFrz me) := by
  refine ⟨fun ρ m o m' q => bnd_len q (he.len ρ m) fun w m1 q1 => ?_, fun ρ m o m' q B al σ H Q wd rs h => ?_⟩
  · split at q1
    · cases q1; exact Nat.le_refl _
    · split at q1
      · split at q1
        · cases q1; exact Nat.le_of_eq List.length_set.symm
        · cases q1
      · cases q1
    · cases q1
  · refine wE.lock (he.seq q wd rs h.res fun w m1 q1 l1 B1 al1 v1 H1 x1 g1 wd1 r1 => ?_)
    split at q1
    · next d => cases q1; exact .inl (h B1 al1 v1 H1 x1 g1 wd1 r1)
    · next k =>
      split at q1
      · next c ec =>
        split at q1
        · next d ed =>
          cases q1
          obtain ⟨rfl, _⟩ : v1 = .ref (al1 k) ∧ k < m1.length := r1
          cases hn : c.isDct with
          | false =>
            obtain ⟨B2, x2, w2, rr⟩ := wd1.kill ec ed hn
            exact .inl (h B2 al1 _ H1 (x1.trans x2) g1 w2 rr)
          | true =>
            obtain ⟨u, hu, mu, z⟩ := wd1.killD ec ed hn
            refine .inr ⟨_, u, rfl, hu, mu, fun od => ?_⟩
            obtain ⟨B2, x2, w2, rr⟩ := z od
            exact h B2 al1 _ _ (x1.trans x2) g1 w2 rr
        · cases q1
      · cases q1
    · cases q1
/-- the name's object is data from here on -/
def sFrz (i : Nat) (b : SM) : SM := fun ρ m => match ρ[i]? with
  | some (some (.hdl k)) => (match m[k]? with
    | some c => (match c.d with
      | some d => b (ρ.set i (some (.dat d))) (m.set k .dead)
      | none => none)
    | none => none)
  | _ => b ρ m
theorem sss_frz {X : Cx} {bs : List Stmt} {b : SM} (i : Nat) (hb : SSs X bs b) : SSs X bs (sFrz i b) := by
  refine ⟨fun ρ m f m' q => ?_, fun ρ m f m' q B al σ H D wd rs h => ?_⟩
  · unfold sFrz at q
    split at q
    · split at q
      · split at q
        · have := hb.len _ _ _ _ q
          rw [List.length_set] at this
          exact this
        · cases q
      · cases q
    · exact hb.len _ _ _ _ q
  · unfold sFrz at q
    split at q
    · next k e =>
      split at q
      · next c ec =>
        split at q
        · next d ed =>
          obtain ⟨v, hv, rfl, hk⟩ := rs.2 i _ e
          have l : (m.set k .dead).length = m.length := List.length_set
          have rs2 : ∀ {B2 : Hp}, Ex B B2 → Rep X.K B2 (.ref (al k)) d → RepS X.K B2 al (m.set k Cell.dead).length σ (ρ.set i (some (.dat d))) := fun {B2} x2 rr => by
            rw [l]
            have r0 := rs.mono x2 (Agr.refl (n := m.length) (al := al)) (Nat.le_refl _)
            refine ⟨by rw [List.length_set]; exact r0.1, fun j w hw => ?_⟩
            by_cases z : i = j
            · subst z
              have li : i < ρ.length := by rw [List.getElem?_eq_some_iff] at e; exact e.1
              rw [List.getElem?_set_self li] at hw
              cases hw
              exact ⟨_, hv, rr⟩
            · rw [List.getElem?_set_ne z] at hw
              exact r0.2 j w hw
          cases hn : c.isDct with
          | false =>
            obtain ⟨B2, x2, w2, rr⟩ := wd.kill ec ed hn
            exact hb.run _ _ _ _ q B2 al σ H D w2 (rs2 x2 rr) (h.mono x2 Agr.refl (by rw [l]; exact Nat.le_refl _))
          | true =>
            obtain ⟨u, hu, mu, z⟩ := wd.killD ec ed hn
            intro pins s I
            obtain ⟨od, I2⟩ := I.lock hu mu
            obtain ⟨B2, x2, w2, rr⟩ := z od
            exact hb.run _ _ _ _ q B2 al σ _ D w2 (rs2 x2 rr) (h.mono x2 Agr.refl (by rw [l]; exact Nat.le_refl _)) pins s I2
        · cases q
      · cases q
    · exact hb.run _ _ _ _ q B al σ H D wd rs h
/-! ### methods of lists -/
def meAppend : Cell → List D → Option (D × Cell)
  | .lst ds, [d] => if ds.length < LIM then some (.non, .lst (ds ++ [d])) else none
  | _, _ => none
def mePop : Cell → List D → Option (D × Cell)
  | .lst ds, [] => (ds[ds.length - 1]?).map fun d => (d, .lst ds.dropLast)
  | .lst ds, [.int i] => if 0 ≤ i ∧ i < ds.length then (ds[i.toNat]?).map fun d => (d, .lst (ds.eraseIdx i.toNat)) else none
  | _, _ => none
def meInsert : Cell → List D → Option (D × Cell)
  | .lst ds, [.int i, d] => if ds.length < LIM ∧ 0 ≤ i ∧ i ≤ LIM then some (.non, .lst (ds.take i.toNat ++ [d] ++ ds.drop i.toNat)) else none
  | _, _ => none
def meExtend : Cell → List D → Option (D × Cell)
  | .lst ds, [.lst es] => if ds.length + es.length ≤ LIM then some (.non, .lst (ds ++ es)) else none
  | _, _ => none
def meReverse : Cell → List D → Option (D × Cell)
  | .lst ds, [] => some (.non, .lst ds.reverse)
  | _, _ => none
def meClear : Cell → List D → Option (D × Cell)
  | .lst _, [] => some (.non, .lst [])
  | _, _ => none
def rMe (X : Cx) (f : Cell → List D → Option (D × Cell)) : V → List V → Hp → VK → Prop := fun x xs H Q => ∃ (B : Hp) (al : Pl) (kk : Nat) (a : Addr) (zs : List D) (c' : Cell) (ds : List D) (d : D), x = .ref a ∧ Ex B H ∧ RepC X.K B al kk H a (.lst zs) ∧ Reps X.K B xs ds ∧ f (.lst zs) ds = some (d, c') ∧ B a = none ∧
  ∀ o' v, RepC X.K B al kk (upd H a o') a c' → Rep X.K B v d → Q v (upd H a o')
theorem Reps.eraseIdx {K : PySem.W.Frag} {B : Hp} : ∀ {vs : List V} {ds : List D} (i : Nat), Reps K B vs ds → Reps K B (vs.eraseIdx i) (ds.eraseIdx i)
  | _, _, _, .nil => .nil
  | _, _, 0, .cons _ t => t
  | _, _, i + 1, .cons r t => .cons r (Reps.eraseIdx i t)
theorem Reps.dropLast {K : PySem.W.Frag} {B : Hp} : ∀ {vs : List V} {ds : List D}, Reps K B vs ds → Reps K B vs.dropLast ds.dropLast
  | _, _, .nil => .nil
  | _, _, .cons _ .nil => .nil
  | _, _, .cons r (.cons q t) => .cons r (Reps.dropLast (.cons q t))
theorem list_extendW (l : Addr) (items : Array Value) (n : Nat) (b : Addr) (items2 : Array Value) (n2 : Nat) (dd2 : Option Addr) (sl2 : Array (Option Value)) (hc0 : ¬(!items.isEmpty && Builtin.List.listTooLong (items.size + items2.size)) = true) (hc1 : items.size ≤ sizeLine) (hs2 : items.size + items2.size ≤ sizeLine + 1) :
    Meets (Builtin.«list.extend» ⟨[.ref l, .ref b], []⟩) (fun _ R s => s.heap.get? l = some { cls := .type "list", dict := none, data := .seq items n, slots := #[] } ∧ s.heap.get? b = some { cls := .type "list", dict := dd2, data := .seq items2 n2, slots := sl2 } ∧ R (.ok (.ret Value.none)) { s with heap := s.heap.update l (Obj.mapSeq fun x => x ++ items2), toks := s.toks }) :=
  .of_wp fun prog w A R s h => by
    obtain ⟨hp, g, d, tk, os⟩ := s; obtain ⟨hl, hb, h⟩ := h; have f1 := AutoSeq1.idx_int; have f2 := AutoSeq1.sub_tuple_tuple; have f3 := AutoSeq1.sub_list_list; have f4 := AutoSeq1.sub_tuple_list; have f5 := AutoSeq1.sub_list_tuple
    have hz' : (items ++ items2).size ≤ sizeLine + 1 := by rw [Array.size_append]; exact hs2
    wp_walk using (wpAny_updateSeq hl rfl (hz := hc1) (_hz' := hz')), AutoSeq1.wpAny_loadPart' hl, AutoSeq1.wpAny_loadPart' hb; exact ⟨_, rfl, h⟩
section
variable {X : Cx}
theorem mt_append' : MtR X "list.append" (rMe X meAppend) := by
  rintro pins s σ H x xs v us Q I rx rxs ⟨B, pl, kk, a, zs, c', ds, d, rfl, e, ⟨vs, ha, rz⟩, r, hm, hb, q⟩
  match ds, r, hm with
  | [y], .cons r1 .nil, hm =>
    have hm' : (if zs.length < LIM then some (D.non, Cell.lst (zs ++ [y])) else none) = some (d, c') := hm
    split at hm'
    · next hl =>
      cases hm'
      exact mt_append pins s σ H _ _ v us Q I rx rxs ⟨a, vs, _, rfl, rfl, ha, by rw [rz.length]; exact lim_lt hl, q _ _ ⟨_, upd_same, rz.append (.cons r1 .nil)⟩ .non⟩
    · cases hm'
  | [], _, hm => cases hm
  | _ :: _ :: _, _, hm => cases hm
theorem mt_pop' : MtR X "list.pop" (rMe X mePop) := by
  rintro pins s σ H x xs v us Q I rx rxs ⟨B, pl, kk, a, zs, c', ds, d, rfl, e, ⟨vs, ha, rz⟩, r, hm, hb, q⟩
  match ds, r, hm with
  | [], .nil, hm =>
    obtain ⟨d', hd, e'⟩ := Option.map_eq_some_iff.mp (show (zs[zs.length - 1]?).map (fun d => (d, Cell.lst zs.dropLast)) = some (d, c') from hm)
    cases e'
    obtain ⟨z, hz, rzz⟩ := rz.get hd
    exact mt_pop pins s σ H _ _ v us Q I rx rxs ⟨a, vs, z, rfl, rfl, ha, by rw [rz.length]; exact hz, q _ _ ⟨_, upd_same, rz.dropLast⟩ rzz⟩
  | [.int i], .cons (.int _) .nil, hm =>
    have hm' : (if 0 ≤ i ∧ i < zs.length then (zs[i.toNat]?).map fun d => (d, Cell.lst (zs.eraseIdx i.toNat)) else none) = some (d, c') := hm
    split at hm'
    · next hi =>
      obtain ⟨d', hd, e'⟩ := Option.map_eq_some_iff.mp hm'
      cases e'
      obtain ⟨z, hz, rzz⟩ := rz.get hd
      have hn := line63
      obtain ⟨its, nn, rr, ho, hsz⟩ := I.lst ha
      have hl := rz.length
      refine mt_popAt pins s σ H _ _ v us Q I rx rxs ⟨a, vs, i, i.toNat, z, rfl, rfl, ha, by omega, by omega, ?_, hz, q _ _ ⟨_, upd_same, rz.eraseIdx _⟩ rzz⟩
      exact seqIndex_of hi.1 (by rw [hl]; exact hi.2)
    · cases hm'
theorem mt_insert' : MtR X "list.insert" (rMe X meInsert) := by
  rintro pins s σ H x xs v us Q I rx rxs ⟨B, pl, kk, a, zs, c', ds, d, rfl, e, ⟨vs, ha, rz⟩, r, hm, hb, q⟩
  match ds, r, hm with
  | [.int i, y], .cons (.int _) (.cons r1 .nil), hm =>
    have hm' : (if zs.length < LIM ∧ 0 ≤ i ∧ i ≤ LIM then some (D.non, Cell.lst (zs.take i.toNat ++ [y] ++ zs.drop i.toNat)) else none) = some (d, c') := hm
    split at hm'
    · next hl =>
      cases hm'
      have hL : LIM = 1000000 := rfl
      exact L2.mt_insert pins s σ H _ _ v us Q I rx rxs ⟨a, vs, i, _, rfl, rfl, ha, by rw [rz.length]; exact lim_lt hl.1, hl.2.1, by omega, q _ _ ⟨_, upd_same, ((rz.take _).append (.cons r1 .nil)).append (rz.drop _)⟩ .non⟩
    · cases hm'
theorem mt_extend' : MtR X "list.extend" (rMe X meExtend) := by
  rintro pins s σ H x xs v us Q I rx rxs ⟨B, pl, kk, a, zs, c', ds, d, rfl, e, ⟨vs, ha, rz⟩, r, hm, hb, q⟩
  match ds, r, hm with
  | [.lst es], .cons (.lst (a := b) (vs := us2) hq rr) .nil, hm =>
    have hm' : (if zs.length + es.length ≤ LIM then some (D.non, Cell.lst (zs ++ es)) else none) = some (d, c') := hm
    split at hm'
    · next hl =>
      cases hm'
      cases rx
      obtain ⟨u, rfl, ru⟩ := rxs.one
      cases (show u = Value.ref b from ru)
      obtain ⟨z, its, n, rv, hll, eo⟩ := I.lstM ha
      obtain ⟨its2, rv2, ⟨o2, n2, ho2, hc2, _, hd2⟩, hl2⟩ := I.list (Evl.ex_l e hq)
      obtain ⟨cls2, dd2, data2, sl2⟩ := o2
      simp only at hc2 hd2
      subst hc2 hd2
      have k1 : vs.length = zs.length := rz.length
      have k2 : us2.length = es.length := rr.length
      have k3 : us2.length = its2.length := rv2.length
      have k4 := lim_ok hl
      have hsz : its.toArray.size + its2.toArray.size ≤ sizeLine := by rw [List.size_toArray, List.size_toArray]; omega
      have hlong : ¬ (!its.toArray.isEmpty && Builtin.List.listTooLong (its.toArray.size + its2.toArray.size)) = true := by
        rw [notLongL hsz, Bool.and_false]
        exact Bool.false_ne_true
      refine call_meets F.slot_list_extend ⟨_, eo, rfl⟩ F.entry_list_extend (F.args_list_extend_2 _ _)
        (list_extendW a its.toArray n b its2.toArray n2 dd2 sl2 hlong (by rw [List.size_toArray]; omega) (by omega)) ⟨eo, ho2, ?_⟩
      refine ⟨.non, _, I.lset (its' := its ++ its2) ha eo (by simp) (rv.append rv2) ?_, rfl, q _ _ ⟨_, upd_same, rz.append rr⟩ .non⟩
      rw [List.length_append]
      omega
    · cases hm'
theorem mt_reverse' : MtR X "list.reverse" (rMe X meReverse) := by
  rintro pins s σ H x xs v us Q I rx rxs ⟨B, pl, kk, a, zs, c', ds, d, rfl, e, ⟨vs, ha, rz⟩, r, hm, hb, q⟩
  match ds, r, hm with
  | [], .nil, hm =>
    cases hm
    exact mt_reverse pins s σ H _ _ v us Q I rx rxs ⟨a, vs, rfl, rfl, ha, q _ _ ⟨_, upd_same, rz.reverse⟩ .non⟩
theorem mt_clear' : MtR X "list.clear" (rMe X meClear) := by
  rintro pins s σ H x xs v us Q I rx rxs ⟨B, pl, kk, a, zs, c', ds, d, rfl, e, ⟨vs, ha, rz⟩, r, hm, hb, q⟩
  match ds, r, hm with
  | [], .nil, hm =>
    cases hm
    exact mt_clear pins s σ H _ _ v us Q I rx rxs ⟨a, vs, rfl, rfl, ha, q _ _ ⟨_, upd_same, .nil⟩ .non⟩
/-- o.m(e, ..), o a list that is a handle -/
def mMe (f : Cell → List D → Option (D × Cell)) (mo : EM) (ma : AM) : EM := fun ρ m => bnd (mo ρ m) fun w m1 => match w with
  | .hdl k => (match m1[k]? with
    | some (.lst _) => bnd (ma ρ m1) fun ws m2 => (match dats ws, m2[k]? with
      | some ds, some (.lst zs) => (match f (.lst zs) ds with
        | some (d, c') => if c'.isDead = false then some (.ok (.dat d), m2.set k c') else none
        | none => none)
      | _, _ => none)
    | _ => none)
  | _ => none
theorem me_inv {f : Cell → List D → Option (D × Cell)} {k : Nat} {ws : List W} {m2 m' : Mem} {o : Out W} (q : (match dats ws, m2[k]? with
      | some ds, some (.lst zs) => (match f (.lst zs) ds with
        | some (d, c') => if c'.isDead = false then (some (.ok (.dat d), m2.set k c') : Run W) else none
        | none => none)
      | _, _ => none) = some (o, m')) : ∃ ds zs d c', dats ws = some ds ∧ m2[k]? = some (.lst zs) ∧ f (.lst zs) ds = some (d, c') ∧ c'.isDead = false ∧ o = .ok (.dat d) ∧ m' = m2.set k c' := by
  split at q
  · next ds zs e1 e2 =>
    split at q
    · next d c' e3 =>
      split at q
      · next e4 => cases q; exact ⟨ds, zs, d, c', e1, e2, e3, e4, rfl, rfl⟩
      · cases q
    · cases q
  · cases q
theorem me_run {f : Cell → List D → Option (D × Cell)} {o : Expr} {es : List Expr} {mo : EM} {ma : AM} (ho : SE X o mo) (ha : SA X es ma) {ρ : Slots} {m m' : Mem} {oo : Out W} (q : mMe f mo ma ρ m = some (oo, m')) {B : Hp} {al : Pl} {σ : L2.St} {H : Hp} {Q : VK}
    (wd : Wd X.K B al m H) (rs : RepS X.K B al m.length σ ρ) (h : AnsE X B al m.length σ Q m' oo) : tBM X.K "list" (rMe X f) (wE X o) (wA X es) σ H Q := by
  refine ho.seq q wd rs h.res fun w m1 q1 l1 B1 al1 v1 H1 x1 g1 wd1 r1 => ?_
  cases w with
  | dat d => cases q1
  | clo i ds => cases q1
  | hdl k =>
    obtain ⟨rfl, hk⟩ : v1 = .ref (al1 k) ∧ k < m1.length := r1
    dsimp only at q1
    split at q1
    · next zs0 e0 =>
      obtain ⟨_, vs0, h0, _⟩ := wd1.cell k _ e0 rfl
      refine ⟨.inl ⟨rfl, vs0, .inl (.inl h0)⟩, ?_⟩
      refine ha.seq q1 wd1 (rs.mono x1 g1 l1) (fun c fs z => (h.res c fs z).mono x1 g1 l1) fun ws m2 q2 l2 B2 al2 vs2 H2 x2 g2 wd2 r2 => ?_
      obtain ⟨ds, zs, d, c', e1, e2, e3, e4, rfl, rfl⟩ := me_inv q2
      have ek : al2 k = al1 k := g2.at_ k hk
      obtain ⟨cb, cc⟩ := wd2.cell k _ e2 rfl
      rw [ek] at cb cc
      refine ⟨B2, al2, k, al1 k, zs, c', ds, d, rfl, wd2.ext, cc, r2.dats e1, e3, cb, fun o' v hc' rv => ?_⟩
      rw [← ek] at hc' ⊢
      exact h B2 al2 v _ (x1.trans x2) (g1.trans g2 l1) (wd2.store (o := o') e2 rfl e4 hc') rv
    · cases q1
theorem me_len {f : Cell → List D → Option (D × Cell)} {o : Expr} {es : List Expr} {mo : EM} {ma : AM} (ho : SE X o mo) (ha : SA X es ma) : ∀ ρ m oo m', mMe f mo ma ρ m = some (oo, m') → m.length ≤ m'.length := fun ρ m oo m' q =>
  bnd_len q (ho.len ρ m) fun w m1 q1 => by
    cases w with
    | dat d => cases q1
    | clo i ds => cases q1
    | hdl k =>
      dsimp only at q1
      split at q1
      · exact bnd_len q1 (ha.len ρ m1) fun ws m2 q2 => by
          obtain ⟨_, _, _, _, _, _, _, _, _, rfl⟩ := me_inv q2
          rw [List.length_set]; exact Nat.le_refl _
      · cases q1
theorem se_me {id : String} {name : Str} {f : Cell → List D → Option (D × Cell)} {o e : Expr} {es : List Expr} {mo : EM} {ma : AM} {apos cpos : Pos} (slot : Slot "list" name id) (hty : typeOf (.builtin id) = pure (.type "method_descriptor")) (hm : MtR X id (rMe X f)) (ho : SE X o mo) (ha : SA X (e :: es) ma)
    (hbase : attributeBase o name X.env (eval o X.env) = eval o X.env := by rfl)
    (hfew : ((backTo cpos (starEach (e :: es) X.env)).all (fun x => !x.1) && (backToKw cpos (keywordEach [] X.env)).all (fun x => x.1.isSome)
      && decide ((e :: es).length + ([] : List Keyword).length + (if ([] : List Keyword).isEmpty then 0 else 1) < 30)) = true := by rfl)
    (hline : (apos.endLine == cpos.line) = true := by rfl) (h0 : noStar e = true := by rfl) (h1 : es.all noStar = true := by rfl) : SE X (.Call (.Attribute o name apos) (e :: es) [] cpos) (mMe f mo ma) :=
  ⟨me_len ho ha, fun ρ m oo m' q B al σ H Q wd rs h pins s I => (pe_bm PySem.F.plainAttrs_list slot hty hm pe_w pa_w hbase hfew hline (starEach_cons h0) (star_any h1)).run pins s σ H Q I (me_run ho ha q wd rs h)⟩
theorem me_nil {f : Cell → List D → Option (D × Cell)} {o : Expr} {mo : EM} (ho : SE X o mo) {ρ : Slots} {m m' : Mem} {oo : Out W} (q : mMe f mo mNil ρ m = some (oo, m')) {B : Hp} {al : Pl} {σ : L2.St} {H : Hp} {Q : VK}
    (wd : Wd X.K B al m H) (rs : RepS X.K B al m.length σ ρ) (h : AnsE X B al m.length σ Q m' oo) : tBM0 X.K "list" (rMe X f) (wE X o) σ H Q := by
  refine ho.seq q wd rs h.res fun w m1 q1 l1 B1 al1 v1 H1 x1 g1 wd1 r1 => ?_
  cases w with
  | dat d => cases q1
  | clo i ds => cases q1
  | hdl k =>
    obtain ⟨rfl, hk⟩ : v1 = .ref (al1 k) ∧ k < m1.length := r1
    dsimp only at q1
    split at q1
    · next zs0 e0 =>
      obtain ⟨_, vs0, h0, _⟩ := wd1.cell k _ e0 rfl
      refine ⟨.inl ⟨rfl, vs0, .inl (.inl h0)⟩, ?_⟩
      obtain ⟨ds, zs, d, c', e1, e2, e3, e4, rfl, rfl⟩ := me_inv (ws := []) (m2 := m1) (k := k) (f := f) q1
      cases e1
      obtain ⟨cb, cc⟩ := wd1.cell k _ e2 rfl
      refine ⟨B1, al1, k, al1 k, zs, c', [], d, rfl, wd1.ext, cc, .nil, e3, cb, fun o' v hc' rv => ?_⟩
      exact h B1 al1 v _ x1 g1 (wd1.store (o := o') e2 rfl e4 hc') rv
    · cases q1
theorem se_me0 {id : String} {name : Str} {f : Cell → List D → Option (D × Cell)} {o : Expr} {mo : EM} {apos cpos : Pos} (slot : Slot "list" name id) (hty : typeOf (.builtin id) = pure (.type "method_descriptor")) (hm : MtR X id (rMe X f)) (ho : SE X o mo)
    (hbase : attributeBase o name X.env (eval o X.env) = eval o X.env := by rfl) (hline : (apos.endLine == cpos.line) = true := by rfl) : SE X (.Call (.Attribute o name apos) [] [] cpos) (mMe f mo mNil) :=
  ⟨me_len ho sa_nil, fun ρ m oo m' q B al σ H Q wd rs h pins s I => (pe_bm0 PySem.F.plainAttrs_list slot hty hm pe_w hbase hline).run pins s σ H Q I (me_nil ho q wd rs h)⟩
end
end Dm
/-! Dm, part 18: slices. -/
namespace Dm
open PySem PySem.Spec PyProof.Rows L2
open Evl (Ex)
variable [Lams]
def cutD (ds : List D) (lo hi : Option Int) : List D := (ds.drop (HT.sIx ds.length 0 lo)).take (HT.sIx ds.length ds.length hi - HT.sIx ds.length 0 lo)
def fSl (x : D) (lo hi : Option Int) : Option D := match x with
  | .lst ds => some (.lst (cutD ds lo hi))
  | .tup ds => some (.tup (cutD ds lo hi))
  | .str z => if z.length ≤ LIM then some (.str (cutS z lo hi)) else none
  | _ => none
/-- a part of a slice -/
abbrev OM := Slots → Mem → Option (Option Int × Mem)
def oNone : OM := fun _ m => some (none, m)
def oSome (me : EM) : OM := fun ρ m => match me ρ m with
  | some (.ok (.dat (.int i)), m1) => some (some i, m1)
  | _ => none
structure SO (X : Cx) (e : Option Expr) (mo : OM) : Prop where
  ex : ∃ t, PO X e t ∧ (∀ ρ m o m', mo ρ m = some (o, m') → m.length ≤ m'.length) ∧ ∀ ρ m o m', mo ρ m = some (o, m') → ∀ B al σ H Q, Wd X.K B al m H → RepS X.K B al m.length σ ρ →
    (∀ B' al' H', Ex B B' → Agr m.length al al' → Wd X.K B' al' m' H' → Q o H') → t σ H Q
section
variable {X : Cx}
theorem so_none : SO X none oNone := ⟨tNoPart, po_none, fun ρ m o m' q => by cases q; exact Nat.le_refl _, fun ρ m o m' q B al σ H Q wd rs h => by
  cases q
  exact h B al H (Ex.refl B) Agr.refl wd⟩
theorem oSome_eq {me : EM} {ρ : Slots} {m m' : Mem} {o : Option Int} (q : oSome me ρ m = some (o, m')) : ∃ i, me ρ m = some (.ok (.dat (.int i)), m') ∧ o = some i := by
  unfold oSome at q
  split at q
  · next i m1 e => cases q; exact ⟨i, e, rfl⟩
  · cases q
theorem so_some {e : Expr} {me : EM} (he : SE X e me) : SO X (some e) (oSome me) := ⟨_, po_some (pe_w (X := X)), fun ρ m o m' q => by
  obtain ⟨i, e, _⟩ := oSome_eq q
  exact he.len _ _ _ _ e, fun ρ m o m' q B al σ H Q wd rs h => by
  obtain ⟨i, e, rfl⟩ := oSome_eq q
  refine he.run _ _ _ _ e B al σ H _ wd rs fun B1 al1 v1 H1 x1 g1 wd1 r1 => ?_
  cases (r1 : Rep X.K B1 v1 (.int i))
  exact ⟨i, rfl, h B1 al1 H1 x1 g1 wd1⟩⟩
def rSD (X : Cx) : V → Option Int → Option Int → Hp → VK → Prop := fun x lo hi H Q => ∃ (B : Hp) (dx d : D), Ex B H ∧ Vw X.K B H x dx ∧ fSl dx lo hi = some d ∧ ∀ B' v H', Gr B B' H H' → Rep X.K B' v d → Q v H'
theorem cut_rep {K : PySem.W.Frag} {B : Hp} {vs : List V} {ds : List D} {lo hi : Option Int} (r : Reps K B vs ds) : Reps K B (cutV vs lo hi) (cutD ds lo hi) := by
  unfold cutV cutD
  rw [r.length]
  exact (r.drop _).take _
theorem cut_whole {ds : List D} {lo hi : Option Int} (h : HT.sIx ds.length 0 lo = 0 ∧ HT.sIx ds.length ds.length hi = ds.length) : cutD ds lo hi = ds := by
  unfold cutD
  rw [h.1, h.2]
  simp
theorem sl_dd : SlR X (rSD X) := by
  rintro pins s σ H x v vl vu lo hi sl Q I rx hs pl pu ⟨B, dx, d, e, hx, hf, k⟩
  cases dx with
  | lst ds =>
    cases hf
    obtain ⟨a, vs, rfl, q, r⟩ := hx
    refine sl_list pins s σ H _ v vl vu lo hi sl Q I rx hs pl pu ⟨a, vs, rfl, q, fun p hp => ?_⟩
    obtain ⟨g, rr⟩ := lay_lst e hp (cut_rep (lo := lo) (hi := hi) r)
    exact k _ _ _ g rr
  | tup ds =>
    cases hf
    obtain ⟨a, vs, rfl, q, r⟩ := hx
    refine sl_tupA pins s σ H _ v vl vu lo hi sl Q I rx hs pl pu ⟨a, vs, rfl, q.1, fun h => ?_, fun _ p hp => ?_⟩
    · rw [r.length] at h
      exact k B _ H (Gr.refl e) (by rw [cut_whole h]; exact .tup q.2 r)
    · obtain ⟨g, rr⟩ := lay_tup e hp (cut_rep (lo := lo) (hi := hi) r)
      exact k _ _ _ g rr
  | str z =>
    have hf' : (if z.length ≤ LIM then some (D.str (cutS z lo hi)) else none) = some d := hf
    split at hf'
    · next hl =>
      cases hf'
      obtain rfl := vw_str hx
      exact sl_str pins s σ H _ v vl vu lo hi sl Q I rx hs pl pu ⟨z, rfl, lim_ok hl, k B _ H (Gr.refl e) (.str _)⟩
    · cases hf'
  | _ => cases hf
def mSl (me : EM) (ml mh : OM) : EM := fun ρ m => bnd (me ρ m) fun x m1 => match ml ρ m1 with
  | some (lo, m2) => (match mh ρ m2 with
    | some (hi, m3) => (match view m3 x with
      | some dx => (match fSl dx lo hi with
        | some d => some (.ok (.dat d), m3)
        | none => none)
      | none => none)
    | none => none)
  | none => none
theorem sl_inv {x : W} {ml mh : OM} {ρ : Slots} {m1 m' : Mem} {o : Out W} (q : (match ml ρ m1 with
  | some (lo, m2) => (match mh ρ m2 with
    | some (hi, m3) => (match view m3 x with
      | some dx => (match fSl dx lo hi with
        | some d => (some (.ok (.dat d), m3) : Run W)
        | none => none)
      | none => none)
    | none => none)
  | none => none) = some (o, m')) : ∃ lo m2 hi dx d, ml ρ m1 = some (lo, m2) ∧ mh ρ m2 = some (hi, m') ∧ view m' x = some dx ∧ fSl dx lo hi = some d ∧ o = .ok (.dat d) := by
  split at q
  · next lo m2 e1 =>
    split at q
    · next hi m3 e2 =>
      split at q
      · next dx e3 =>
        split at q
        · next d e4 => cases q; exact ⟨lo, m2, hi, dx, d, e1, e2, e3, e4, rfl⟩
        · cases q
      · cases q
    · cases q
  · cases q
theorem se_sl {e : Expr} {lo hi : Option Expr} {me : EM} {ml mh : OM} {pos p2 : Pos} (he : SE X e me) (hl : SO X lo ml) (hh : SO X hi mh) : SE X (.Subscript e (.Slice lo hi none p2) pos) (mSl me ml mh) := by
  obtain ⟨tl, pl, ll, rl⟩ := hl.ex
  obtain ⟨th, ph, lh, rh⟩ := hh.ex
  refine ⟨fun ρ m o m' q => bnd_len q (he.len ρ m) fun x m1 q1 => ?_, fun ρ m o m' q B al σ H Q wd rs h pins s I => (pe_slice sl_dd pe_w pl ph).run pins s σ H Q I ?_⟩
  · obtain ⟨_, _, _, _, _, e1, e2, _⟩ := sl_inv q1
    exact Nat.le_trans (ll _ _ _ _ e1) (lh _ _ _ _ e2)
  · refine he.seq q wd rs h.res fun x m1 q1 l1 B1 al1 v1 H1 x1 g1 wd1 r1 => ?_
    obtain ⟨lo', m2, hi', dx, d, e1, e2, e3, e4, rfl⟩ := sl_inv q1
    have l2 := ll _ _ _ _ e1
    have l3 := lh _ _ _ _ e2
    refine rl _ _ _ _ e1 B1 al1 σ H1 _ wd1 (rs.mono x1 g1 l1) fun B2 al2 H2 x2 g2 wd2 => ?_
    refine rh _ _ _ _ e2 B2 al2 σ H2 _ wd2 ((rs.mono x1 g1 l1).mono x2 g2 l2) fun B3 al3 H3 x3 g3 wd3 => ?_
    refine ⟨B3, dx, d, wd3.ext, wd3.view ((r1.mono x2 g2 l2).mono x3 g3 l3) e3, e4, fun B4 v4 H4 g4 r4 => ?_⟩
    exact h B4 al3 v4 H4 (((x1.trans x2).trans x3).trans g4.b) ((g1.trans g2 l1).trans g3 (Nat.le_trans l1 l2)) (wd3.grow g4) r4
end
end Dm
/-! Dm, part 19: sorted of lists. -/
namespace Dm
open PySem PySem.Spec PyProof.Rows L2
open Evl (Ex)
variable [Lams]
def alikeB (ds : List D) : Bool := ds.all fun d => ds.all fun e => PySem.W.alike (py d) (py e)
def tupB : D → Bool
  | .tup (_ :: _) => true
  | _ => false
def othB : D → Bool
  | .non => false
  | .tup _ => false
  | _ => true
def sortD (ds : List D) : List D := ds.mergeSort (PySem.W.dataLe false py)
def fSorted : List D → Option D
  | [.lst ds] => if ds.all (plD 57) = true ∧ alikeB ds = true ∧ (ds.all tupB = true ∨ ds.all othB = true) then some (.lst (sortD ds)) else none
  | _ => none
section
variable {X : Cx} {pins : List (Addr × Obj)} {σ : L2.St} {H : Hp} {s : Shared}
theorem each_reads (I : Inv X pins σ H s) (hm : ∃ mm, X.base.Ns sysModules mm) : ∀ {vs : List V} {ds : List D} {us : List Value}, Reps X.K H vs ds → ds.all (plD 57) = true → Vals vs us → PySem.W.EachIs (fun u d => ∃ as, Reads s.heap u (py d) as) us ds
  | _, _, _, .nil, _, r => by cases r; exact .nil
  | _, _, _, .cons q qs, h, r => by
    cases r with
    | cons r1 r2 =>
      rw [List.all_cons, Bool.and_eq_true] at h
      obtain ⟨as, ra, _⟩ := q.reads I hm (n := 57) (.inl h.1) r1
      exact .cons ⟨as, ra⟩ (each_reads I hm qs h.2 r2)
theorem each_rep {K : PySem.W.Frag} {B : Hp} : ∀ {vs : List V} {ds : List D} {us : List Value}, Reps K B vs ds → Vals vs us → PySem.W.EachIs (fun u d => ∃ v, RelV v u ∧ Rep K B v d) us ds
  | _, _, _, .nil, r => by cases r; exact .nil
  | _, _, _, .cons q qs, r => by
    cases r with
    | cons r1 r2 => exact .cons ⟨_, r1, q⟩ (each_rep qs r2)
theorem each_back {K : PySem.W.Frag} {B : Hp} : ∀ {us : List Value} {ds : List D}, PySem.W.EachIs (fun u d => ∃ v, RelV v u ∧ Rep K B v d) us ds → ∃ vs, Vals vs us ∧ Reps K B vs ds
  | _, _, .nil => ⟨[], .nil, .nil⟩
  | _, _, .cons ⟨v, r1, r2⟩ t => let ⟨vs, h1, h2⟩ := each_back t; ⟨v :: vs, .cons r1 h1, .cons r2 h2⟩
end
theorem sortable_of {ds : List D} (hp : ∀ d ∈ ds, plD 57 d = true) (h : ds.all tupB = true ∨ ds.all othB = true) : PySem.W.Sortable (ds.map py) := by
  rcases h with h | h
  · refine .inl fun d hd => ?_
    obtain ⟨b, hb, rfl⟩ := List.mem_map.mp hd
    have := List.all_eq_true.mp h b hb
    cases b with
    | tup es =>
      cases es with
      | nil => cases this
      | cons e r => exact ⟨py e, pys r, rfl⟩
    | _ => cases this
  · refine .inr fun d hd => ?_
    obtain ⟨b, hb, rfl⟩ := List.mem_map.mp hd
    have := List.all_eq_true.mp h b hb
    have nt : ∀ {d : PyData}, d ≠ .none → (∀ xs, d ≠ .tuple xs) → d ≠ .none ∧ ∀ xs, d ≠ .tuple xs := fun a b => ⟨a, b⟩
    have pl := hp b hb
    cases b with
    | non => cases this
    | tup => cases this
    | bl c => exact ⟨fun z => (by cases (show PyData.bool c = .none from z)), fun xs z => (by cases (show PyData.bool c = .tuple xs from z))⟩
    | int c => exact ⟨fun z => (by cases (show PyData.int c = .none from z)), fun xs z => (by cases (show PyData.int c = .tuple xs from z))⟩
    | str c => exact ⟨fun z => (by cases (show PyData.str c = .none from z)), fun xs z => (by cases (show PyData.str c = .tuple xs from z))⟩
    | lst c => exact ⟨fun z => (by cases (show PyData.list (pys c) = .none from z)), fun xs z => (by cases (show PyData.list (pys c) = .tuple xs from z))⟩
    | dct c => cases pl
    | ty c => cases pl
    | cl c => cases pl
    | obj c fs => cases pl
    | exc c fs => cases pl
theorem cd_sorted {X : Cx} (R : Rm X) : CallR X (.builtin "sorted") (rCD X fSorted) := by
  rintro pins s σ H xs us Q I rs ⟨B, ds, d, e, hx, hf, k⟩
  unfold fSorted at hf
  split at hf
  · next zs =>
    split at hf
    · next hc =>
      cases hf
      obtain ⟨x, rfl, a, vs, rfl, q, r⟩ := vwl1 hx
      obtain ⟨its, rv, hl, hz⟩ := I.list q
      rw [Vals.ref1 rs]
      have un := R.un
      have hal : PySem.W.AllAlike (zs.map py) := fun d hd d' hd' => by
        obtain ⟨b, hb, rfl⟩ := List.mem_map.mp hd
        obtain ⟨b', hb', rfl⟩ := List.mem_map.mp hd'
        exact List.all_eq_true.mp (List.all_eq_true.mp hc.2.1 b hb) b' hb'
      have hlen : zs.length ≤ sizeLine := by rw [← r.length]; exact hz
      refine PySem.W.sorted_data (bs := zs) (enc := py) (R := fun u d => ∃ v, RelV v u ∧ Rep X.K B v d) hl.isList (each_rep r rv) (each_reads I R.sm (r.mono e) hc.1 rv) hal (sortable_of (fun d hd => List.all_eq_true.mp hc.1 d hd) hc.2.2) hlen (fun b hb => ?_) fun out ho he => ?_
      · have := (plD_ok 57 b (List.all_eq_true.mp hc.1 b hb)).2
        omega
      · obtain ⟨ws, w1, w2⟩ := each_back he
        obtain ⟨ep, he'⟩ := PyProof.Rows.sortedAll_at s.heap its (List.toArray out)
        have hl2 : ws.length ≤ sizeLine := by rw [w1.length, ho]; exact hlen
        refine ⟨.ref _, upd H (s.heap.objs.size + 1) (.lst ws), I.laid (t' := s.toks) (fun _ _ => PyProof.Rows.sortedAll_old) (Nat.le_succ _) ⟨hl2, out, ep, w1, by simpa using he'⟩, rfl, ?_⟩
        obtain ⟨g, rr⟩ := lay_lst e (I.hok.fresh (Nat.le_succ _)) w2
        exact k _ _ _ g rr
    · cases hf
  · cases hf
end Dm
/-! Dm, part 20: own classes: attributes, methods, making. -/
namespace Dm
open PySem PySem.Spec PyProof.Rows L2
open Evl (Ex)
variable [Lams]
/-! ### o.f -/
def fFld (c : Str) (f : Str) : D → Option D
  | .obj c' fs => if c' = c then fs.lookup f else none
  | _ => none
theorem repF_lookup {K : PySem.W.Frag} {B : Hp} {f : Str} : ∀ {gs : List (Str × V)} {fs : List (Str × D)}, RepF K B gs fs → (fs.lookup f = none ∧ gs.lookup f = none) ∨ ∃ d v, fs.lookup f = some d ∧ gs.lookup f = some v ∧ Rep K B v d
  | _, _, .nil => .inl ⟨rfl, rfl⟩
  | _, _, .cons (x := x) (v := v) (d := d) h t => by
    rw [List.lookup_cons, List.lookup_cons]
    cases e : f == x with
    | true => exact .inr ⟨d, v, rfl, rfl, h⟩
    | false => exact repF_lookup t
theorem se_fld {X : Cx} {e : Expr} {me : EM} {f c : Str} {pos : Pos} (he : SE X e me) (hc : Cls X.K (He.ga X.K c)) (hn : NoAttr X.K (He.ga X.K c) f) (hb : attributeBase e f X.env (eval e X.env) = eval e X.env := by rfl) : SE X (.Attribute e f pos) (mUn (fFld c f) me) := by
  refine ⟨un_len he, fun ρ m o m' q B al σ H Q wd rs h pins s I => (pe_fld pe_w hb).run pins s σ H Q I ?_⟩
  refine un_run (r := fun x H Q => ∃ a C dx fs v, x = .ref a ∧ H a = some (.ins C dx fs) ∧ Cls X.K C ∧ NoAttr X.K C f ∧ fs.lookup f = some v ∧ Q v H) (fun dx d hf B H x e hx Q k => ?_) he q wd rs h
  cases dx with
  | obj c' fs =>
    have hf' : (if c' = c then fs.lookup f else none) = some d := hf
    split at hf'
    · next hcc =>
      subst hcc
      obtain ⟨a, dx, gs, rfl, ha, r⟩ := hx
      rcases repF_lookup (f := f) r with ⟨h1, _⟩ | ⟨d', v, h1, h2, h3⟩
      · rw [h1] at hf'; cases hf'
      · rw [h1] at hf'; cases hf'
        exact ⟨a, _, dx, gs, v, rfl, ha, hc, hn, h2, k B v H (Gr.refl e) h3⟩
    · cases hf'
  | _ => cases hf
/-! ### self.f = e -/
def putD (f : Str) (d : D) (fs : List (Str × D)) : List (Str × D) := if (fs.lookup f).isSome then fs.map fun p => if p.1 = f then (f, d) else p else fs ++ [(f, d)]
/-! ### a def at any place -/
structure DefA (P : Program) (w : World) (K : PySem.W.Frag) (mg : Str → Option Value) (bs : Heap) (a : Addr) (k : Nat) (ps : List Str) (mf : FM) (n : Nat) (ks : List Str) (gW : List W → List W → List W) : Prop where
  ex : ∃ fd, FnG P w K mg bs k a fd ps (spM K ps.length mf) ∧ Bdg K fd ps n ks gW
  len : LenF mf
/-- o.m(e, ..): o an object -/
def mMeth (c m0 : Str) (n : Nat) (gW : List W → List W → List W) (mf : FM) (mo : EM) (ma : AM) : EM := fun ρ m => bnd (mo ρ m) fun w m1 => match view m1 w with
  | some (.obj c' fs) => if c' = c ∧ fs.lookup m0 = none then bnd (ma ρ m1) fun ws m2 => if ws.length = n then cut m.length (mf (gW (w :: ws) []) m2) else none else none
  | _ => none
theorem meth_inv {c m0 : Str} {n : Nat} {gW : List W → List W → List W} {mf : FM} {ma : AM} {ρ : Slots} {m m1 m' : Mem} {w : W} {o : Out W} (q : (match view m1 w with
  | some (.obj c' fs) => if c' = c ∧ fs.lookup m0 = none then bnd (ma ρ m1) fun ws m2 => if ws.length = n then cut m.length (mf (gW (w :: ws) []) m2) else none else none
  | _ => (none : Run W)) = some (o, m')) : ∃ fs, view m1 w = some (.obj c fs) ∧ fs.lookup m0 = none ∧ (bnd (ma ρ m1) fun ws m2 => if ws.length = n then cut m.length (mf (gW (w :: ws) []) m2) else none) = some (o, m') := by
  split at q
  · next c' fs e =>
    split at q
    · next h => obtain ⟨rfl, h2⟩ := h; exact ⟨fs, e, h2, q⟩
    · cases q
  · cases q
section
variable {X : Cx} {o e : Expr} {es : List Expr} {mo : EM} {ma : AM} {c m0 : Str} {j k n : Nat} {ps : List Str} {mf : FM} {gW : List W → List W → List W} {apos pos : Pos}
theorem meth_len (L : LenF mf) (ho : SE X o mo) (ha : ∀ ρ m oo m', ma ρ m = some (oo, m') → m.length ≤ m'.length) : ∀ ρ m oo m', mMeth c m0 n gW mf mo ma ρ m = some (oo, m') → m.length ≤ m'.length := fun ρ m oo m' q => by
  rcases bnd_cases q with ⟨w, m1, e1, q1⟩ | ⟨cc, fs, e1, rfl⟩
  · obtain ⟨fs, _, _, q2⟩ := meth_inv q1
    have l1 := ho.len _ _ _ _ e1
    rcases bnd_cases q2 with ⟨ws, m2, e2, q3⟩ | ⟨cc, fs, e2, rfl⟩
    · have l2 := ha _ _ _ _ e2
      split at q3
      · obtain ⟨m3, e3, h3⟩ := cut_eq q3
        have l3 := L _ _ _ _ e3
        rcases h3 with rfl | ⟨rfl, _⟩
        · omega
        · rw [List.length_take]; omega
      · cases q3
    · exact Nat.le_trans l1 (ha _ _ _ _ e2)
  · exact ho.len _ _ _ _ e1
theorem Vw.obj {K : PySem.W.Frag} {B H : Hp} {v : V} {c : Str} {fs : List (Str × D)} (h : Vw K B H v (.obj c fs)) : ∃ a dx gs, v = .ref a ∧ H a = some (.ins (He.ga K c) dx gs) ∧ RepF K B gs fs := h
theorem se_meth {pl : Sem Bool} (ho : SE X o mo) (ha : SA X (e :: es) ma) (hc : Cls X.K (He.ga X.K c)) (hM : Meth X.K (He.ga X.K c) m0 (He.ma X.K (He.ga X.K c) m0)) (F : DefA X.prog X.w X.K X.mg X.base (He.ma X.K (He.ga X.K c) m0) j ps mf (n + 1) [] gW) (hj : j ≤ k) (hr : Room k X.A) (hG : X.A.guards = some [])
    (h0 : noStar e = true := by rfl) (h1 : es.all noStar = true := by rfl)
    (ht : eval (.Call (.Attribute o m0 apos) (e :: es) [] pos) X.env = (do
      let ov ← eval o X.env
      standAt apos.atName
      let (f, first) ← holding [ov] (getMethod ov m0 pl)
      callWith pos f first (backTo pos (starEach (e :: es) X.env)) (backToKw pos (keywordEach [] X.env))) := by rfl) :
    SE X (.Call (.Attribute o m0 apos) (e :: es) [] pos) (mMeth c m0 n gW mf mo ma) := by
  obtain ⟨fd, G, b⟩ := F.ex
  refine ⟨meth_len F.len ho ha.len, fun ρ m oo m' q B al σ H Q wd rs h pins s I => ?_⟩
  refine PySem.W.methodCall_KW (pl := pl) (thn (ho.seq (Q' := fun x H1 => ∃ a dx gs, x = .ref a ∧ H1 a = some (.ins (He.ga X.K c) dx gs) ∧ gs.lookup m0 = none ∧ wA X (e :: es) σ H1 fun vs H2 => ∀ pins s2 us, Inv X pins σ H2 s2 → Vals vs us → wpAny (model X.prog X.w) X.A (call (.ref (He.ma X.K (He.ga X.K c) m0)) (.ref a :: us)) (EP X pins σ Q) X.xe s2)
    q wd rs h.res (fun w m1 q1 l1 B1 al1 v1 H1 x1 g1 wd1 r1 => ?_) pins s I) fun u s1 ⟨x, H1, I1, rx, a, dx, gs, ex, ea, l, q⟩ => ?_) ht
  · obtain ⟨fs, hv, hl, q2⟩ := meth_inv q1
    obtain ⟨a, dx, gs, rfl, ha', rf⟩ := (wd1.view r1 hv).obj
    have hl' : gs.lookup m0 = none := by
      rcases repF_lookup (f := m0) rf with ⟨_, h2⟩ | ⟨d', v, h1, _⟩
      · exact h2
      · rw [hl] at h1; cases h1
    refine ⟨a, dx, gs, rfl, ha', hl', ?_⟩
    refine ha.seq q2 wd1 (rs.mono x1 g1 l1) (fun c fs z => (h.res c fs z).mono x1 g1 l1) fun ws m2 q3 l2 B2 al2 vs2 H2 x2 g2 wd2 r2 pins s2 us I2 ru => ?_
    split at q3
    · next hlen =>
      have r1' : RepL X.K B2 al2 m2.length (.ref a :: vs2) (w :: ws) := ⟨r1.mono x2 g2 l2, r2⟩
      exact call_run (kv := []) (zs := []) (us := []) (vs := .ref a :: vs2) (ws := w :: ws) (uv := .ref a :: us) (G.mono hj) hr hG b h (Nat.le_trans l1 l2) (x1.trans x2) (g1.trans g2 l1) wd2 r1' trivial (by rw [List.length_cons, hlen]) rfl q3 F.len I2 (.cons rfl ru) .nil
    · cases q3
  · subst ex
    obtain rfl : u = Value.ref a := rx
    refine getmeth_ok I1 ea hc hM l ?_
    exact PySem.W.callWith_K (first := [.ref a]) (h₀ := X.base) I1.ok.mod.kin hM.kp (thn (q pos pins s1 I1) fun us s2 ⟨vs, H2, I2, r, q2⟩ => ⟨I2.kIn, q2 pins s2 us I2 r⟩) (starEach_cons h0) (star_any h1)
theorem se_meth0 {pl : Sem Bool} (ho : SE X o mo) (hc : Cls X.K (He.ga X.K c)) (hM : Meth X.K (He.ga X.K c) m0 (He.ma X.K (He.ga X.K c) m0)) (F : DefA X.prog X.w X.K X.mg X.base (He.ma X.K (He.ga X.K c) m0) j ps mf 1 [] gW) (hj : j ≤ k) (hr : Room k X.A) (hG : X.A.guards = some [])
    (ht : eval (.Call (.Attribute o m0 apos) [] [] pos) X.env = (do
      let ov ← eval o X.env
      standAt apos.atName
      let (f, first) ← holding [ov] (getMethod ov m0 pl)
      callWith pos f first (backTo pos (starEach [] X.env)) (backToKw pos (keywordEach [] X.env))) := by rfl) :
    SE X (.Call (.Attribute o m0 apos) [] [] pos) (mMeth c m0 0 gW mf mo mNil) := by
  obtain ⟨fd, G, b⟩ := F.ex
  refine ⟨meth_len F.len ho (sa_nil (X := X)).len, fun ρ m oo m' q B al σ H Q wd rs h pins s I => ?_⟩
  refine PySem.W.methodCall_KW (pl := pl) (thn (ho.seq (Q' := fun x H1 => ∃ a dx gs, x = .ref a ∧ H1 a = some (.ins (He.ga X.K c) dx gs) ∧ gs.lookup m0 = none ∧ ∀ pins s2, Inv X pins σ H1 s2 → wpAny (model X.prog X.w) X.A (call (.ref (He.ma X.K (He.ga X.K c) m0)) [.ref a]) (EP X pins σ Q) X.xe s2)
    q wd rs h.res (fun w m1 q1 l1 B1 al1 v1 H1 x1 g1 wd1 r1 => ?_) pins s I) fun u s1 ⟨x, H1, I1, rx, a, dx, gs, ex, ea, l, q⟩ => ?_) ht
  · obtain ⟨fs, hv, hl, q2⟩ := meth_inv q1
    obtain ⟨a, dx, gs, rfl, ha', rf⟩ := (wd1.view r1 hv).obj
    have hl' : gs.lookup m0 = none := by
      rcases repF_lookup (f := m0) rf with ⟨_, h2⟩ | ⟨d', v, h1, _⟩
      · exact h2
      · rw [hl] at h1; cases h1
    refine ⟨a, dx, gs, rfl, ha', hl', fun pins s2 I2 => ?_⟩
    have q3 : cut m.length (mf (gW [w] []) m1) = some (oo, m') := q2
    have r1' : RepL X.K B1 al1 m1.length [.ref a] [w] := ⟨r1, trivial⟩
    exact call_run (kv := []) (zs := []) (us := []) (vs := [.ref a]) (ws := [w]) (uv := [.ref a]) (G.mono hj) hr hG b h l1 x1 g1 wd1 r1' trivial rfl rfl q3 F.len I2 (.cons rfl .nil) .nil
  · subst ex
    obtain rfl : u = Value.ref a := rx
    refine getmeth_ok I1 ea hc hM l ?_
    exact PySem.W.callWith_K0 (first := [.ref a]) I1.kIn hM.kp (q pins s1 I1)
end
end Dm
/-! Dm, part 21: self.f = e; making an instance. -/
namespace Dm
open PySem PySem.Spec PyProof.Rows L2
open Evl (Ex)
variable [Lams]
/-! ### C(e, ..): the new instance is data when its __init__ is done -/
def mkEnd (k n : Nat) (x : Run W) : Run W := match x with
  | some (.ok (.dat .non), m2) => (match m2[k]? with
    | some (.obj c fs) => some (.ok (.dat (.obj c fs)), (m2.set k .dead).take n)
    | _ => none)
  | some (.ex c fs, m2) => some (.ex c fs, m2.take n)
  | _ => none
theorem mkEnd_inv {k n : Nat} {x : Run W} {o : Out W} {m' : Mem} (q : mkEnd k n x = some (o, m')) : (∃ m2 c fs, x = some (.ok (.dat .non), m2) ∧ m2[k]? = some (.obj c fs) ∧ o = .ok (.dat (.obj c fs)) ∧ m' = (m2.set k .dead).take n) ∨ ∃ c fs m2, x = some (.ex c fs, m2) ∧ o = .ex c fs ∧ m' = m2.take n := by
  unfold mkEnd at q
  split at q
  · next m2 =>
    split at q
    · next c fs e => cases q; exact .inl ⟨m2, c, fs, rfl, e, rfl, rfl⟩
    · cases q
  · next c fs m2 => cases q; exact .inr ⟨c, fs, m2, rfl, rfl, rfl⟩
  · cases q
def mMake (c : Str) (n nk : Nat) (gW : List W → List W → List W) (mf : FM) (ma mk : AM) : EM := fun ρ m => bnd (ma ρ m) fun ws m1 => bnd (mk ρ m1) fun us m2 => if ws.length = n ∧ us.length = nk then mkEnd m2.length m.length (mf (gW (.hdl m2.length :: ws) us) (m2 ++ [.obj c []])) else none
theorem under_guards {A : Around} {C : Addr} {us : List Value} {kw : List (Str × Value)} (h : A.guards = some []) : (A.under (.builtin "type.__call__" ⟨.ref C :: us, kw⟩)).guards = some [] := by
  first | exact h | simpa [Around.under, Code.weight, Code.isCreation, Code.isGuard, Code.isCaller, Code.frames, Code.isFrame, guardIds] using h
section
variable {X : Cx}
theorem make_run {k n : Nat} {c : Str} {f : Addr} {fd : FuncData} {ps ks : List Str} {mf : FM} {gW : List W → List W → List W} (M : Mk X.K (He.ga X.K c) f) (F : FnG X.prog X.w X.K X.mg X.base k f fd ps (spM X.K ps.length mf)) (hr : Room (k + 1) X.A) (hG : X.A.guards = some []) (hb : Bdg X.K fd ps (n + 1) ks gW)
    {B B2 : Hp} {al al2 : Pl} {m m2 m' : Mem} {σ : L2.St} {H2 : Hp} {Q : VK} {o : Out W} (h : AnsE X B al m.length σ Q m' o) (l : m.length ≤ m2.length) (e2 : Ex B B2) (g2 : Agr m.length al al2) (wd2 : Wd X.K B2 al2 m2 H2) {vs zs : List V} {ws us : List W}
    (r1 : RepL X.K B2 al2 m2.length vs ws) (r2 : RepL X.K B2 al2 m2.length zs us) (hl1 : ws.length = n) (hl2 : us.length = ks.length) (q : mkEnd m2.length m.length (mf (gW (.hdl m2.length :: ws) us) (m2 ++ [.obj c []])) = some (o, m')) (L : LenF mf)
    {pins : List (Addr × Obj)} {s : Shared} (I : Inv X pins σ H2 s) {uv kv : List Value} (rv : Vals vs uv) (rk : Vals zs kv) : wpAny (model X.prog X.w) X.A (call (.ref (He.ga X.K c)) uv (ks.zip kv)) (EP X pins σ Q) X.xe s := by
  obtain ⟨g, gV, hbn, hvl, hrel⟩ := hb.ex
  have lv : vs.length = n := r1.length.trans hl1
  have lz : zs.length = ks.length := r2.length.trans hl2
  have I2 := Inv.made (C := He.ga X.K c) I
  have hx := I.hok.fresh (Nat.le_succ s.heap.objs.size)
  have hdx := I.hok.fresh (Nat.le_refl s.heap.objs.size)
  have ne : s.heap.objs.size ≠ s.heap.objs.size + 1 := Nat.ne_of_lt (Nat.lt_succ_self _)
  -- the memory with the new instance
  have wd3 := wd2.grow (Gr.by (o := .own (s.heap.objs.size + 1)) wd2.ext hdx)
  have hx3 : upd H2 s.heap.objs.size (.own (s.heap.objs.size + 1)) (s.heap.objs.size + 1) = none := by rw [upd_ne ne.symm]; exact hx
  obtain ⟨wd4, a4⟩ := wd3.alloc (p := s.heap.objs.size + 1) (o := .ins (He.ga X.K c) s.heap.objs.size []) (c := .obj c []) hx3 ⟨_, _, upd_same, .nil⟩
  have ll : (m2 ++ [Cell.obj c []]).length = m2.length + 1 := by simp
  have rS : RepL X.K B2 (alx al2 m2.length (s.heap.objs.size + 1)) (m2 ++ [Cell.obj c []]).length (.ref (s.heap.objs.size + 1) :: vs) (.hdl m2.length :: ws) := ⟨⟨by rw [alx_here], by rw [ll]; omega⟩, r1.mono (Ex.refl _) a4 (by rw [ll]; omega)⟩
  have rZ : RepL X.K B2 (alx al2 m2.length (s.heap.objs.size + 1)) (m2 ++ [Cell.obj c []]).length zs us := r2.mono (Ex.refl _) a4 (by rw [ll]; omega)
  have rv' : Vals (V.ref (s.heap.objs.size + 1) :: vs) (Value.ref (s.heap.objs.size + 1) :: uv) := Paired.cons (show RelV (V.ref (s.heap.objs.size + 1)) (Value.ref (s.heap.objs.size + 1)) from rfl) rv
  have rr := hbn.rel rv' rk
  have lvn : (V.ref (s.heap.objs.size + 1) :: vs).length = n + 1 := congrArg (· + 1) lv
  have hlen : (gV (.ref (s.heap.objs.size + 1) :: vs) zs).length = ps.length := hvl _ _ lvn lz
  have bt := hbn.to { s with heap := (s.heap.push PySem.W.emptyDict).push (PySem.W.instObj (He.ga X.K c) s.heap.objs.size) } (.ref (s.heap.objs.size + 1) :: uv) kv I2.kIn (by rw [List.length_cons, ← rv.length, lv]) (rk.length.symm.trans lz)
  have rW := hrel B2 _ _ _ _ _ _ lvn lz rS rZ
  refine wpAny_call (make_map (f := f) I.kIn M.makes M.init (beq_iff_eq.mp M.fn) ?_)
  rcases mkEnd_inv q with ⟨m3, c', fs, e3, e4, rfl, rfl⟩ | ⟨c', fs, m3, e3, rfl, rfl⟩
  · have l3 := L _ _ _ _ e3
    refine codeAny_mono (F.run _ X.stack _ _ ⟨Value.ref (s.heap.objs.size + 1) :: uv, ks.zip kv⟩ _ _ (fun v H3 => v = .non ∧ Q (.ref (s.heap.objs.size + 1)) H3) E0 (under_guards hG) (hr.make _ uv _) (I2.env0.make _ uv _) bt rr
      ⟨hlen, B2, _, _, _, _, m3, e3, wd4, rW, fun B3 al3 v3 H3 x3 g3 wd5 r5 => ?_⟩) fun r s' hq => ?_
    · cases (r5 : Rep X.K B3 v3 .non)
      refine ⟨rfl, ?_⟩
      obtain ⟨B6, x6, w6, rep6⟩ := wd5.kill e4 rfl rfl
      have ea : al3 m2.length = s.heap.objs.size + 1 := by rw [g3.at_ m2.length (by rw [ll]; omega), alx_here]
      rw [ea] at rep6
      have gg : Agr m.length al al3 := g2.trans (a4.trans ⟨fun k hk => g3.at_ k (by rw [ll]; omega), g3.fr⟩ (Nat.le_refl _)) l
      exact h B6 al3 _ H3 ((e2.trans x3).trans x6) gg (w6.take _) rep6
    · cases r with
      | error er => exact (passL pins _ _ _ er s' I2 hq)
      | ok fl =>
        cases fl with
        | ret u =>
          obtain ⟨v, H', I3, rv3, ev, q3⟩ := I2.after hq
          subst ev
          exact ⟨rv3, ⟨V.ref (s.heap.objs.size + 1), H', I3, rfl, q3⟩⟩
        | next => exact False.elim hq
        | brk => exact False.elim hq
        | cont => exact False.elim hq
  · obtain ⟨Wx, tk, ha⟩ := h
    refine codeAny_mono (F.run _ X.stack _ _ ⟨Value.ref (s.heap.objs.size + 1) :: uv, ks.zip kv⟩ _ _ (fun v H3 => v = .non ∧ Q (.ref (s.heap.objs.size + 1)) H3) (fun cls oa H' => Wx cls oa σ H') (under_guards hG) (hr.make _ uv _) (I2.env0.make _ uv _) bt rr
      ⟨hlen, B2, _, _, _, _, m3, e3, wd4, rW, fun B3 al3 cls oa H3 x3 g3 wd5 r5 => ?_⟩) fun r s' hq => ?_
    · have gg : Agr m.length al al3 := g2.trans (a4.trans ⟨fun k hk => g3.at_ k (by rw [ll]; omega), g3.fr⟩ (Nat.le_refl _)) l
      exact ha B3 al3 cls oa H3 (e2.trans x3) gg (wd5.take _) r5
    · cases r with
      | error er => exact tk er s' (XE.of_call I2 (fun cls oa H' z => z) hq)
      | ok fl =>
        cases fl with
        | ret u =>
          obtain ⟨v, H', I3, rv3, ev, q3⟩ := I2.after hq
          subst ev
          exact ⟨rv3, ⟨V.ref (s.heap.objs.size + 1), H', I3, rfl, q3⟩⟩
        | next => exact False.elim hq
        | brk => exact False.elim hq
        | cont => exact False.elim hq
end
end Dm
/-! Dm, part 22: self.f = e; C(e, ..). -/
namespace Dm
open PySem PySem.Spec PyProof.Rows L2
open Evl (Ex)
variable [Lams]
/-! ### self.f = e -/
def putO (f : Str) (d : D) : List (Str × D) → List (Str × D)
  | [] => [(f, d)]
  | (g, x) :: r => if g = f then (g, d) :: r else (g, x) :: putO f d r
theorem putO_rep {K : PySem.W.Frag} {B : Hp} {f : Str} {v : V} {d : D} (r : Rep K B v d) : ∀ {gs : List (Str × V)} {fs : List (Str × D)}, RepF K B gs fs → RepF K B (putF f v gs) (putO f d fs)
  | _, _, .nil => .cons r .nil
  | _, _, .cons (x := x) h t => by
    unfold putF putO
    by_cases e : x = f
    · rw [if_pos e, if_pos e]; exact .cons r t
    · rw [if_neg e, if_neg e]; exact .cons h (putO_rep r t)
theorem repF_len {K : PySem.W.Frag} {B : Hp} : ∀ {gs : List (Str × V)} {fs : List (Str × D)}, RepF K B gs fs → gs.length = fs.length
  | _, _, .nil => rfl
  | _, _, .cons _ t => congrArg (· + 1) (repF_len t)
def sPut (c f : Str) (mo me : EM) : SM := fun ρ m => sbd (me ρ m) ρ fun w m1 => match w with
  | .dat v => (match mo ρ m1 with
    | some (.ok (.hdl k), m2) => (match m2[k]? with
      | some (.obj c' fs) => if c' = c ∧ fs.length < 1000 then some (.nx ρ, m2.set k (.obj c (putO f v fs))) else none
      | _ => none)
    | _ => none)
  | _ => none
theorem put_cases {c f : Str} {mo : EM} {w : W} {ρ : Slots} {m1 m' : Mem} {fl : Fl} (q : (match w with
  | .dat v => (match mo ρ m1 with
    | some (.ok (.hdl k), m2) => (match m2[k]? with
      | some (.obj c' fs) => if c' = c ∧ fs.length < 1000 then some (.nx ρ, m2.set k (.obj c (putO f v fs))) else none
      | _ => none)
    | _ => none)
  | _ => (none : SR)) = some (fl, m')) : ∃ v k m2 fs, w = .dat v ∧ mo ρ m1 = some (.ok (.hdl k), m2) ∧ m2[k]? = some (.obj c fs) ∧ fs.length < 1000 ∧ fl = .nx ρ ∧ m' = m2.set k (.obj c (putO f v fs)) := by
  split at q
  · next v =>
    split at q
    · next k m2 e1 =>
      split at q
      · next c' fs e2 =>
        split at q
        · next h => obtain ⟨rfl, h2⟩ := h; cases q; exact ⟨v, k, m2, fs, rfl, e1, e2, h2, rfl, rfl⟩
        · cases q
      · cases q
    · cases q
  · cases q
section
variable {X : Cx} {o value : Expr} {mo me : EM} {f c : Str} {pos pos' : Pos}
theorem ss_fld (ho : SE X o mo) (hv : SE X value me) (hc : Cls X.K (He.ga X.K c)) (hn : NoAttr X.K (He.ga X.K c) f) (hs : swapsWith value (some (.Attribute o f pos')) pos.line X.env = pure false) : SS X (.Assign [.Attribute o f pos'] value pos) (sPut c f mo me) := by
  refine ⟨fun ρ m fl m' q => sbd_len q (hv.len ρ m) fun w m1 q1 => ?_, fun ρ m fl m' q B al σ H D wd rs h pins s I => (ps_fld pe_w pe_w hs).run pins s σ H D I ?_⟩
  · obtain ⟨v, k, m2, fs, _, e1, _, _, _, rfl⟩ := put_cases q1
    rw [set_len]; exact ho.len _ _ _ _ e1
  · refine hv.ssq q wd rs h fun w m1 q1 l1 B1 al1 v1 H1 x1 g1 wd1 r1 => ?_
    obtain ⟨d, k, m2, fs, rfl, e1, e2, hl, rfl, rfl⟩ := put_cases q1
    refine ho.run ρ m1 _ m2 e1 B1 al1 σ H1 _ wd1 (rs.mono x1 g1 l1) fun B2 al2 v2 H2 x2 g2 wd2 r2 => ?_
    have l2 := ho.len _ _ _ _ e1
    obtain ⟨rfl, hk⟩ : v2 = .ref (al2 k) ∧ k < m2.length := r2
    obtain ⟨hb, dx, gs, ha, rf⟩ := wd2.cell k _ e2 rfl
    refine ⟨al2 k, _, dx, gs, rfl, ha, hc, hn, by rw [repF_len rf]; exact hl, ?_⟩
    have rv : Rep X.K B2 v1 d := Rep.mono x2 r1
    have wd3 := wd2.store (o := .ins (He.ga X.K c) dx (putF f v1 gs)) (c' := .obj c (putO f d fs)) e2 rfl rfl ⟨dx, _, upd_same, putO_rep rv rf⟩
    exact h B2 al2 _ _ (x1.trans x2) (g1.trans g2 l1) wd3 (by rw [set_len]; exact (rs.mono x1 g1 l1).mono x2 g2 l2)
end
/-! ### C(e, ..) -/
section
variable {X : Cx} {c : Str} {e : Expr} {es : List Expr} {kws : List Keyword} {ma mk : AM} {p pos : Pos} {j k n : Nat} {ps ks : List Str} {mf : FM} {gW : List W → List W → List W}
theorem mkEnd_len {k n : Nat} {x : Run W} {o : Out W} {m' : Mem} (hk : n ≤ k) (hl : ∀ o1 m1, x = some (o1, m1) → k < m1.length) (q : mkEnd k n x = some (o, m')) : n ≤ m'.length := by
  rcases mkEnd_inv q with ⟨m2, c, fs, e, _, _, rfl⟩ | ⟨c, fs, m2, e, _, rfl⟩
  · have := hl _ _ e; rw [List.length_take, set_len]; omega
  · have := hl _ _ e; rw [List.length_take]; omega
theorem make_len (L : LenF mf) (ha : ∀ ρ m oo m', ma ρ m = some (oo, m') → m.length ≤ m'.length) (hw : ∀ ρ m oo m', mk ρ m = some (oo, m') → m.length ≤ m'.length) : ∀ ρ m oo m', mMake c n ks.length gW mf ma mk ρ m = some (oo, m') → m.length ≤ m'.length := fun ρ m oo m' q => by
  rcases bnd_cases q with ⟨ws, m1, e1, q1⟩ | ⟨cc, fs, e1, rfl⟩
  · have l1 := ha _ _ _ _ e1
    rcases bnd_cases q1 with ⟨us, m2, e2, q2⟩ | ⟨cc, fs, e2, rfl⟩
    · have l2 := hw _ _ _ _ e2
      split at q2
      · refine mkEnd_len (Nat.le_trans l1 l2) (fun o1 m3 e3 => ?_) q2
        have := L _ _ _ _ e3
        simp at this; omega
      · cases q2
    · exact Nat.le_trans l1 (hw _ _ _ _ e2)
  · exact ha _ _ _ _ e1
theorem se_make (M : Mk X.K (He.ga X.K c) (He.ma X.K (He.ga X.K c) "__init__")) (F : DefA X.prog X.w X.K X.mg X.base (He.ma X.K (He.ga X.K c) "__init__") j ps mf (n + 1) [] gW) (hj : j ≤ k) (hr : Room (k + 1) X.A) (hG : X.A.guards = some []) (hg : Gl X c) (hm : X.mg c = some (.ref (He.ga X.K c)))
    (ha : SA X (e :: es) ma) (h0 : noStar e = true := by rfl) (h1 : es.all noStar = true := by rfl) (hdb : (c == ("__debug__" : Str)) = false := by decide) : SE X (.Call (.Name c p) (e :: es) [] pos) (mMake c n 0 gW mf ma mNil) := by
  obtain ⟨fd, G, b⟩ := F.ex
  refine ⟨make_len (ks := []) F.len ha.len (sk_nil (X := X)).len, fun ρ m o m' q B al σ H Q wd rs h pins s I => ?_⟩
  refine wpAny_Call_Name_kw (ld_glob I hg hm ?_ hdb)
  refine PySem.W.callWith_K (h₀ := X.base) I.ok.mod.kin M.kp (thn (ha.seq (Q' := fun vs H1 => ∀ pins s1 us, Inv X pins σ H1 s1 → Vals vs us → wpAny (model X.prog X.w) X.A (call (.ref (He.ga X.K c)) us) (EP X pins σ Q) X.xe s1) q wd rs h.res (fun ws m1 q1 l1 B1 al1 vs1 H1 e1 g1 wd1 r1 pins s1 us I1 ru => ?_) pos pins s I)
    fun us s1 ⟨vs, H1, I1, r, q⟩ => ⟨I1.kIn, q pins s1 us I1 r⟩) (starEach_cons h0) (star_any h1)
  have q2 : (if ws.length = n ∧ ([] : List W).length = 0 then mkEnd m1.length m.length (mf (gW (.hdl m1.length :: ws) []) (m1 ++ [.obj c []])) else none) = some (o, m') := q1
  split at q2
  · next hl => exact make_run (ks := []) (kv := []) (zs := []) (us := []) M (G.mono hj) hr hG b h l1 e1 g1 wd1 r1 trivial hl.1 rfl q2 F.len I1 ru .nil
  · cases q2
theorem se_make0 (M : Mk X.K (He.ga X.K c) (He.ma X.K (He.ga X.K c) "__init__")) (F : DefA X.prog X.w X.K X.mg X.base (He.ma X.K (He.ga X.K c) "__init__") j ps mf 1 [] gW) (hj : j ≤ k) (hr : Room (k + 1) X.A) (hG : X.A.guards = some []) (hg : Gl X c) (hm : X.mg c = some (.ref (He.ga X.K c)))
    (hdb : (c == ("__debug__" : Str)) = false := by decide) : SE X (.Call (.Name c p) [] [] pos) (mMake c 0 0 gW mf mNil mNil) := by
  obtain ⟨fd, G, b⟩ := F.ex
  refine ⟨make_len (ks := []) F.len (sa_nil (X := X)).len (sk_nil (X := X)).len, fun ρ m o m' q B al σ H Q wd rs h pins s I => ?_⟩
  refine wpAny_Call_Name_kw (ld_glob I hg hm ?_ hdb)
  refine PySem.W.callWith_K0 I.kIn M.kp ?_
  have q2 : mkEnd m.length m.length (mf (gW [.hdl m.length] []) (m ++ [.obj c []])) = some (o, m') := q
  exact make_run (n := 0) (ks := []) (uv := []) (vs := []) (ws := []) (kv := []) (zs := []) (us := []) M (G.mono hj) hr hG b h (Nat.le_refl _) (Ex.refl B) Agr.refl wd trivial trivial rfl rfl q2 F.len I .nil .nil
theorem se_makeK (M : Mk X.K (He.ga X.K c) (He.ma X.K (He.ga X.K c) "__init__")) (F : DefA X.prog X.w X.K X.mg X.base (He.ma X.K (He.ga X.K c) "__init__") j ps mf (n + 1) ks gW) (hj : j ≤ k) (hr : Room (k + 1) X.A) (hG : X.A.guards = some []) (hg : Gl X c) (hm : X.mg c = some (.ref (He.ga X.K c)))
    (ha : SA X (e :: es) ma) (hw : SK X kws mk) (hall : (kws.map (·.arg)).all (·.isSome) = true := by rfl) (hks : (kws.map (·.arg)).filterMap id = ks := by rfl) (h0 : noStar e = true := by rfl) (h1 : es.all noStar = true := by rfl) (hdb : (c == ("__debug__" : Str)) = false := by decide) :
    SE X (.Call (.Name c p) (e :: es) kws pos) (mMake c n ks.length gW mf ma mk) := by
  obtain ⟨fd, G, b⟩ := F.ex
  refine ⟨make_len F.len ha.len hw.len, fun ρ m o m' q B al σ H Q wd rs h pins s I => ?_⟩
  refine wpAny_Call_Name_kw (ld_glob I hg hm ?_ hdb)
  refine PySem.W.callWith_KW (h₀ := X.base) I.ok.mod.kin M.kp (kw_all hall) (thn (ha.seq (Q' := fun vs H1 => ∀ pins s1 us, Inv X pins σ H1 s1 → Vals vs us → wpAny (model X.prog X.w) X.A (evalAll ((backToKw pos (keywordEach kws X.env)).map (·.2))) (fun ws2 s2 => X.K.In s2.heap ∧ wpAny (model X.prog X.w) X.A (call (.ref (He.ga X.K c)) us (ks.zip ws2)) (EP X pins σ Q) X.xe s2) X.xe s1)
      q wd rs h.res (fun ws m1 q1 l1 B1 al1 vs1 H1 e1 g1 wd1 r1 pins s1 us I1 ru => ?_) pos pins s I)
    fun us s1 ⟨vs, H1, I1, r, q⟩ => by rw [kw_ks hks]; exact q pins s1 us I1 r) (by rw [star_any (es := e :: es) (by rw [List.all_cons, h0, h1]; rfl), kw_any hall]; rfl) (starEach_cons h0)
  refine thn (hw.seq (Q' := fun zs H2 => ∀ pins s2 ks2, Inv X pins σ H2 s2 → Vals zs ks2 → Vals vs1 us → wpAny (model X.prog X.w) X.A (call (.ref (He.ga X.K c)) us (ks.zip ks2)) (EP X pins σ Q) X.xe s2) q1 wd1 (rs.mono e1 g1 l1) (fun c fs z => (h.res c fs z).mono e1 g1 l1) (fun us2 m2 q2 l2 B2 al2 vs2 H2 e2 g2 wd2 r2 pins s2 ks2 I2 rk ru2 => ?_) pos pins s1 I1)
    fun ks2 s2 ⟨zs, H2, I2, rk, q⟩ => ⟨I2.kIn, q pins s2 ks2 I2 rk ru⟩
  split at q2
  · next hl => exact make_run M (G.mono hj) hr hG b h (Nat.le_trans l1 l2) (e1.trans e2) (g1.trans g2 l1) wd2 (r1.mono e2 g2 l2) r2 hl.1 hl.2 q2 F.len I2 ru2 rk
  · cases q2
end
end Dm
set_option maxHeartbeats 4000000
/-! Dm, part 23: an own exception is made, by place and by keyword, over any base; its fields are stored. -/
namespace DmX
open PySem PySem.HandSPX
section
open Builtin Builtin.ObjectAttr
variable {prog : Program} {w : World} {A : Around} {E : Value → Shared → Prop} {R : Result → Shared → Prop} {h : Heap} {g : Array GenState} {d : Drawn} {t : Nat} {os : OsState}
variable {nm q : Str} {C N : Addr} {bs bm bmB : List Value} {hdct : Bool} {sn : List Str} {sub : List Value} {ab : Bool} {col : Option Bool} {dd : Option Addr} {k0 k1 k2 k3 k5 : Option Value} {B newId initId : String}
theorem newCheckK (F : ExcBaseFacts B newId initId bmB) (hT : ∀ X : String, bm.contains (.type X) = bmB.contains (.type X)) {M : Model} {rest : List Value} {kw : List (Str × Value)} {Q : Unit → Shared → Prop}
    (hC : h.get? C = some (excClassObj nm q C N bs bm hdct sn sub ab col dd k0 k1 k2 k3 k5 newId)) (hq : Q () ⟨h, g, d, t, os⟩) : wpAny M A (checkBuiltinCall newId ⟨.ref C :: rest, kw⟩) Q E ⟨h, g, d, t, os⟩ := by
  have hcont : (Value.ref C :: bm).contains (.type B) = true := by rw [List.contains_cons, hT, F.hasB, Bool.or_true]
  have hstar := F.noStar
  simp only [checkBuiltinCall, F.newKind, F.newSplit, F.newRow]
  repeat (first | refine wpAny_loadPart_at hC ?_ | (refine wpAny_isSubtype_exc hC ?_; rw [hcont]) | refine wpAny_staticBase_exc hC ?_ | refine wpAny_madeBy_exc hC ?_ | simp only [bne_self_eq_false, Bool.false_eq_true, if_false] | wp_step)
  exact hq
theorem newOwnK (F : ExcBaseFacts B newId initId bmB) (hT : ∀ X : String, bm.contains (.type X) = bmB.contains (.type X)) {rest : List Value} {kw : List (Str × Value)}
    (hC : h.get? C = some (excClassObj nm q C N bs bm hdct sn sub ab col dd k0 k1 k2 k3 k5 newId))
    (hq : R (.ok (.ret (.ref (h.objs.size + 1)))) ⟨(h.push { cls := .type "tuple", data := .seq rest.toArray }).push
      { cls := .ref C, data := .fields #[.ref h.objs.size, .none, .none, .none, .bool false, .none] }, g, d, t, os⟩) (hrest : rest.length ≤ sizeLine) :
    codeAny (model prog w) A (.builtin newId ⟨.ref C :: rest, kw⟩) R ⟨h, g, d, t, os⟩ := by
  have hends := F.ends
  have hcB : (Value.ref C :: bm).contains (.type B) = true := by rw [List.contains_cons, hT, F.hasB, Bool.or_true]
  have hcA : (Value.ref C :: bm).contains (.type "AttributeError") = false := by rw [List.contains_cons, hT, F.noAttr]; rfl
  have hcN : (Value.ref C :: bm).contains (.type "NameError") = false := by rw [List.contains_cons, hT, F.noName]; rfl
  refine codeAny_builtinAt F.entry ?_
  unfold Builtin.«BaseException.__new__»
  refine wpAt_bind ?_
  show wpAt _ _ _ (stack >>= _) _ _ _
  refine wpAt_bind (wpAt_stack fun p below => wpAt_of_wpAny ?_)
  wp_walk
  refine wpAt_of_wpAny ?_
  rw [F.owner]
  repeat (first | with_reducible refine wpAny_madeHere_exc F.canon hC ?_ | with_reducible refine wpAny_loadPart_at hC ?_ | (with_reducible refine wpAny_isSubtype_exc hC ?_; first | rw [hcB] | rw [hcA] | rw [hcN]) | wp_step)
  show R _ _
  rw [Heap.size_push]
  exact hq
theorem typeCallK (F : ExcBaseFacts B newId initId bmB) (hT : ∀ X : String, bm.contains (.type X) = bmB.contains (.type X)) {rest : List Value} {kw : List (Str × Value)} {fI : Addr} {Q : Fin → Shared → Prop}
    (hC : h.get? C = some (excClassObj nm q C N bs bm hdct sn sub ab col dd k0 k1 k2 k3 k5 newId))
    (hi : W.Looks (model prog w) h (typeLookup (.ref C) "__init__") (some (.ref fI))) (hb : ∀ self, W.Looks (model prog w) h (bindSpecial (.ref fI) self) (.ref fI, [self])) (hrest : rest.length ≤ sizeLine)
    (hq : codeAny (model prog w) A (.call (.ref fI) ⟨.ref (h.objs.size + 1) :: rest, kw⟩)
      (fun r s' => match r with | .ok (.ret v) => v = .none ∧ Q (.done (.ret (.ref (h.objs.size + 1)))) s' | .ok _ => False | .error e => E e s')
      ⟨(h.push (W.kdv_tup rest)).push (excO C h.objs.size), g, d, t, os⟩) :
    wpAny (model prog w) A (Builtin.«type.__call__» ⟨.ref C :: rest, kw⟩) Q E ⟨h, g, d, t, os⟩ := by
  repeat (first | with_reducible refine wpAny_loadPart_at hC ?_ | with_reducible refine wpAny_madeBy_exc hC ?_ | wp_step)
  refine codeAny_call_builtin_code (Code.quiet_builtin _ F.quiet) (newCheckK F hT hC ?_)
  refine newOwnK F hT hC ?_ hrest
  show wpAny _ _ _ _ _ _
  have k : ∀ b o, h.get? b = some o → ((h.push (W.kdv_tup rest)).push (excO C h.objs.size)).get? b = some o := fun b o e => Heap.get?_push_of_some _ (Heap.get?_push_of_some _ e)
  have hC₁ := k _ _ hC
  have hget : ((h.push (W.kdv_tup rest)).push (excO C h.objs.size)).get? (h.objs.size + 1) = some (excO C h.objs.size) := by heap_get
  have hcC : (Value.ref C :: bm).contains (.ref C) = true := by simp
  have i1 := hi.keeps k
  have b1 := (hb (.ref (h.objs.size + 1))).keeps k
  unfold isInstance
  repeat (first | with_reducible refine wpAny_loadPart_at hget ?_ | (with_reducible refine wpAny_isSubtype_exc hC₁ ?_; rw [hcC]) | wp_step)
  show wpAny _ _ (typeLookup (.ref C) _) _ _ _
  refine i1.at ?_
  refine wpAny_holding (wpAny_bind (b1.at ?_))
  refine wpAny_bind (wpAny_call (codeAny_mono hq fun r s' z => ?_))
  rcases r with e | (v | _ | _ | _) <;> first | exact z | exact z.elim | skip
  obtain ⟨rfl, z⟩ := z
  first
    | exact wpAny_pure (wpAny_pure z)
    | (wp_walk; exact z)
theorem callK (F : ExcBaseFacts B newId initId bmB) (hT : ∀ X : String, bm.contains (.type X) = bmB.contains (.type X)) {rest : List Value} {kw : List (Str × Value)} {fI : Addr}
    (hC : h.get? C = some (excClassObj nm q C N bs bm hdct sn sub ab col dd k0 k1 k2 k3 k5 newId))
    (hi : W.Looks (model prog w) h (typeLookup (.ref C) "__init__") (some (.ref fI))) (hb : ∀ self, W.Looks (model prog w) h (bindSpecial (.ref fI) self) (.ref fI, [self])) (hrest : rest.length ≤ sizeLine)
    (hq : codeAny (model prog w) (A.under (.builtin "type.__call__" ⟨.ref C :: rest, kw⟩)) (.call (.ref fI) ⟨.ref (h.objs.size + 1) :: rest, kw⟩) (W.InitBack (h.objs.size + 1) R)
      ⟨(h.push (W.kdv_tup rest)).push (excO C h.objs.size), g, d, t, os⟩) :
    codeAny (model prog w) A (.call (.ref C) ⟨rest, kw⟩) R ⟨h, g, d, t, os⟩ := by
  have f1 := tc_lookup
  have f2 := tc_bind (.ref C)
  have hTy : (⟨h, g, d, t, os⟩ : Shared).TypeIs (.ref C) "type" := ⟨_, hC, rfl⟩
  refine codeAny_of_tree ?_
  show wpAny _ _ (callAny (.ref C) _) _ _ _
  repeat (any_goals (first | assumption | with_reducible refine wpAny_loadPart_at hC ?_ | wp_step))
  refine ⟨rfl, ?_⟩
  refine codeAny_call_builtin_at (Code.quiet_builtin _ (by decide +kernel)) entry_typeCall (wpAny_check_type_call_sub hC (typeCallK F hT hC hi hb hrest ?_))
  refine codeAny_mono hq fun r s' z => ?_
  rcases r with e | (v | _ | _ | _) <;> exact z
end
end DmX
set_option maxHeartbeats 4000000
/-! Dm, part 24: stores into an own exception over any base. -/
namespace DmX
open PySem PySem.HandSPX
/-- own classes, then the base's mro -/
def ownTail (tl : List Value) : List Value → Bool
  | .ref _ :: r => ownTail tl r
  | l => l == tl
theorem ownTail_cases {tl : List Value} : ∀ l : List Value, ownTail tl l = true → ∃ cs : List Addr, l = cs.map Value.ref ++ tl := by
  intro l
  induction l with
  | nil => intro e; exact ⟨[], (beq_iff_eq.mp e)⟩
  | cons a r ih =>
    intro e
    cases a with
    | ref c => obtain ⟨cs, rfl⟩ := ih e; exact ⟨c :: cs, rfl⟩
    | _ => exact ⟨[], beq_iff_eq.mp e⟩
theorem ownTail_contains {tl : List Value} (X : String) (l : List Value) (h : ownTail tl l = true) : l.contains (.type X) = tl.contains (.type X) := by
  obtain ⟨cs, rfl⟩ := ownTail_cases l h
  induction cs with
  | nil => rfl
  | cons c cs ih => 
    rw [List.map_cons, List.cons_append, List.contains_cons]
    rw [show ((Value.type X == Value.ref c) = false) from rfl, Bool.false_or]
    exact ih h
section
open Builtin Builtin.ObjectAttr
theorem ownTail_pass {tl : List Value} (self : Value) (l : List Value) (hp : refuseLoop self "__setattr__" tl = pure ()) (h : ownTail tl l = true) : refuseLoop self "__setattr__" l = pure () := by
  obtain ⟨cs, rfl⟩ := ownTail_cases l h
  induction cs with
  | nil => exact hp
  | cons c cs ih => rw [List.map_cons, List.cons_append, refuseLoop_ref]; exact ih h
theorem ownTail_ne {tl l : List Value} (n : tl.isEmpty = false) (h : ownTail tl l = true) : l.isEmpty = false := by
  obtain ⟨cs, rfl⟩ := ownTail_cases l h
  cases cs with
  | nil => exact n
  | cons _ _ => rfl
/-- the base's facts that a store asks -/
structure TailOk (tl : List Value) : Prop where
  pass : ∀ self : Value, refuseLoop self "__setattr__" tl = pure ()
  obj : tl.contains (.type "object") = true
theorem TailOk.ne {tl : List Value} (h : TailOk tl) : tl.isEmpty = false := by
  cases tl with
  | nil => exact absurd h.obj (by decide)
  | cons _ _ => rfl
theorem tailVE : TailOk [.type "ValueError", .type "Exception", .type "BaseException", .type "object"] := ⟨F.store_ValueError.passes, by decide +kernel⟩
theorem tailRE : TailOk [.type "RuntimeError", .type "Exception", .type "BaseException", .type "object"] := ⟨F.store_RuntimeError.passes, by decide +kernel⟩
theorem tailLE : TailOk [.type "LookupError", .type "Exception", .type "BaseException", .type "object"] := ⟨F.store_LookupError.passes, by decide +kernel⟩
theorem tailAE : TailOk [.type "ArithmeticError", .type "Exception", .type "BaseException", .type "object"] := ⟨F.store_ArithmeticError.passes, by decide +kernel⟩
variable {prog : Program} {w : World} {A : Around} {E : Value → Shared → Prop} {R : Result → Shared → Prop} {hp : Heap} {g : Array GenState} {d : Drawn} {t : Nat} {os : OsState} {tl : List Value}
/-- the first field: the dict is laid -/
theorem osaNew {K : W.Frag} {name : Str} {tk : Tok} {v : Value} {x C : Addr} {fv : Array Value} {cd : ClassData} (TO : TailOk tl)
    (X : K.In hp) (hx : hp.get? x = some { cls := .ref C, data := .fields fv }) (hcd : W.clsIn K C = some cd) (hm : ownTail tl cd.mro = true) (hh : cd.hasDict = true) (ha : W.findIn K (.ref C) name = some none)
    (hq : ∀ h' tk' dx, (∀ b o, b ≠ x → hp.get? b = some o → h'.get? b = some o) → hp.objs.size ≤ dx → dx ≠ x → h'.get? x = some { cls := .ref C, dict := some dx, data := .fields fv } →
      h'.Ns1 dx (fun y => if y = name then some v else none) → R (.ok (.ret .none)) ⟨h', g, d, tk', os⟩) :
    codeAny (model prog w) A (.call (.builtin "object.__setattr__") ⟨[.ref x, .str name tk, v], []⟩) R ⟨hp, g, d, t, os⟩ := by
  have I : W.InstAt hp x { cls := .ref C, data := .fields fv } C none := ⟨hx, rfl, rfl, trivial⟩
  have SF := F.store_object
  have ne := ownTail_ne TO.ne hm
  have hob : cd.mro.contains (.type "object") = true := (ownTail_contains "object" _ hm).trans TO.obj
  have hxs : x ≠ hp.objs.size := Nat.ne_of_lt (Heap.lt_size hx)
  have sub : W.Looks (model prog w) hp (isInstance (.ref x) (.type "object")) true := I.type.andThen (W.looks_mroIn X (by unfold W.mroIn; rw [hcd, Option.bind_some, if_neg (by rw [ne]; decide), hob]))
  refine codeAny_call_builtin SF.slot.plain SF.entry (@W.check_slot (model prog w) _ _ ⟨hp, g, d, t, os⟩ "object.__setattr__" "object" "__setattr__" (.ref x) [.str name tk, v] [] _ SF.kind SF.split sub (SF.args (.ref x) (.str name tk) v) ?_)
  have hmr : W.Looks (model prog w) hp (mroOf (.ref C)) cd.mro := (W.looks_clsIn X hcd).andThen .now
  have L3 : W.Looks (model prog w) hp (storeTaker? none) none := .now
  have hcls : W.Looks (model prog w) hp (classData C) cd := W.looks_clsIn X hcd
  rw [W.osa_eq, refuse_eq]
  refine wpAny_bind (wpAny_bind (I.type.at (wpAny_bind (hmr.at ?_))))
  rw [ownTail_pass _ _ (TO.pass _) hm]
  refine wpAny_pure (wpAny_bind (I.type.at (wpAny_bind ((W.looks_findIn X ha).at (wpAny_bind (L3.at ?_))))))
  show wpAny _ _ (storeInOwnDict (.ref x) (.ref C) (.str name tk) name v false) _ _ _
  obtain ⟨nm, bs, mro, ns, qn, hd, sn, sb, ab, col, del⟩ := cd
  dsimp only at hh
  subst hh
  unfold storeInOwnDict ownDictForStores
  repeat (first | with_reducible refine store_in_new ?_ ?_ | with_reducible refine wpAny_loadPart_at hx ?_ | with_reducible refine hcls.at ?_ | wp_step)
  · exact ⟨_, #[], _, (Heap.get?_update_ne _ _ _ _ hxs.symm).trans (Heap.get?_push_at rfl rfl), rfl, fun e he => absurd he (by simp), fun _ => rfl⟩
  · intro h' tk' hn' hs
    have hx₁ : (hp.push { cls := .type "dict", data := .dict #[] }).get? x = some { cls := .ref C, data := .fields fv } := Heap.get?_push_of_some _ hx
    refine hq h' tk' hp.objs.size (fun b o hb ho => ?_) (Nat.le_refl _) hxs.symm ?_ hn'
    · exact (hs.2 b (Nat.ne_of_lt (Heap.lt_size ho))).trans ((Heap.get?_update_ne _ _ _ _ hb).trans (Heap.get?_push_of_some _ ho))
    · exact (hs.2 x hxs).trans (Heap.get?_update_self _ hx₁ rfl)
/-- a further field -/
theorem osaOld {K : W.Frag} {name : Str} {tk : Tok} {v : Value} {x C dx : Addr} {fv : Array Value} {cd : ClassData} {m0 : Str → Option Value} {nl : List Str} (TO : TailOk tl)
    (X : K.In hp) (hx : hp.get? x = some { cls := .ref C, dict := some dx, data := .fields fv }) (hns : hp.Ns1 dx m0) (hw : Within m0 nl) (hz : nl.length ≤ 1000) (hcd : W.clsIn K C = some cd) (hm : ownTail tl cd.mro = true) (hh : cd.hasDict = true)
    (ha : W.findIn K (.ref C) name = some none)
    (hq : ∀ h' tk', (∀ b o, b ≠ dx → hp.get? b = some o → h'.get? b = some o) → h'.Ns1 dx (fun y => if y = name then some v else m0 y) → R (.ok (.ret .none)) ⟨h', g, d, tk', os⟩) :
    codeAny (model prog w) A (.call (.builtin "object.__setattr__") ⟨[.ref x, .str name tk, v], []⟩) R ⟨hp, g, d, t, os⟩ := by
  obtain ⟨oD, esD, epD, hoD, hdD, _⟩ := hns.count hw
  have I : W.InstAt hp x { cls := .ref C, dict := some dx, data := .fields fv } C (some oD) := ⟨hx, rfl, rfl, hoD⟩
  have SF := F.store_object
  have ne := ownTail_ne TO.ne hm
  have hob : cd.mro.contains (.type "object") = true := (ownTail_contains "object" _ hm).trans TO.obj
  have sub : W.Looks (model prog w) hp (isInstance (.ref x) (.type "object")) true := I.type.andThen (W.looks_mroIn X (by unfold W.mroIn; rw [hcd, Option.bind_some, if_neg (by rw [ne]; decide), hob]))
  refine codeAny_call_builtin SF.slot.plain SF.entry (@W.check_slot (model prog w) _ _ ⟨hp, g, d, t, os⟩ "object.__setattr__" "object" "__setattr__" (.ref x) [.str name tk, v] [] _ SF.kind SF.split sub (SF.args (.ref x) (.str name tk) v) ?_)
  have hmr : W.Looks (model prog w) hp (mroOf (.ref C)) cd.mro := (W.looks_clsIn X hcd).andThen .now
  have L3 : W.Looks (model prog w) hp (storeTaker? none) none := .now
  have hcls : W.Looks (model prog w) hp (classData C) cd := W.looks_clsIn X hcd
  rw [W.osa_eq, refuse_eq]
  refine wpAny_bind (wpAny_bind (I.type.at (wpAny_bind (hmr.at ?_))))
  rw [ownTail_pass _ _ (TO.pass _) hm]
  refine wpAny_pure (wpAny_bind (I.type.at (wpAny_bind ((W.looks_findIn X ha).at (wpAny_bind (L3.at ?_))))))
  show wpAny _ _ (storeInOwnDict (.ref x) (.ref C) (.str name tk) name v false) _ _ _
  obtain ⟨nm, bs, mro, ns, qn, hd, sn, sb, ab, col, del⟩ := cd
  dsimp only at hh
  subst hh
  unfold storeInOwnDict ownDictForStores
  repeat (first | with_reducible refine OEX.store_in_old hns hw hz ?_ | with_reducible refine wpAny_loadPart_at hx ?_ | with_reducible refine hcls.at ?_ | wp_step)
  intro h' tk' hn' hs
  exact hq h' tk' (fun b o hb ho => (hs.2 b hb).trans ho) hn'
end
end DmX
set_option maxHeartbeats 2000000
/-! Dm, part 25: the __init__ of an own exception, over any base. -/
namespace Dm
open PySem PySem.Spec PyProof.Rows L2
open Evl (Ex)
variable [Lams]
/-- what the written part says of an own exception class -/
structure OexG (K : PySem.W.Frag) (C : Addr) : Prop where
  cls : ∃ (tl : List Value) (Bs newId initId : String) (nm q : Str) (N : Addr) (bs bm : List Value) (sn : List Str) (sub : List Value) (ab : Bool) (col : Option Bool) (dd : Option Addr) (k0 k1 k2 k3 k5 : Option Value),
    ExcBaseFacts Bs newId initId tl ∧ DmX.TailOk tl ∧ K.lookup C = some (excClassObj nm q C N bs bm true sn sub ab col dd k0 k1 k2 k3 k5 newId) ∧ DmX.ownTail tl bm = true
  sa : PySem.W.findIn K (.ref C) "__setattr__" = some (some (.builtin "object.__setattr__"))
  tyC : PySem.W.typeIn K (.ref C) = some (.type "type")
  kC : PySem.W.keepIn K (.ref C) = true
section
variable {X : Cx} {pins : List (Addr × Obj)} {σ : L2.St} {H : Hp} {s : Shared} {a C dx : Addr} {f : Str} {y : V} {u : Value} {fs : List (Str × V)} {Q : Unit → Shared → Prop} {E : Value → Shared → Prop} {A : Around}
theorem exo_new (T : OexG X.K C) (I : Inv X pins σ H s) (e : H a = some (exo a C none)) (hno : PySem.W.findIn X.K (.ref C) f = some none) (ry : RelV y u)
    (h : ∀ dx s', H dx = none → dx ≠ a → Inv X pins σ (upd (upd H dx (exd dx [(f, y)])) a (exo a C (some dx))) s' → Q () s') : wpAny (model X.prog X.w) A (setAttr (.ref a) f u) Q E s := by
  obtain ⟨tl, Bs, newId, initId, nm, q, N, bs, bm, sn, sub, ab, col, dd, k0, k1, k2, k3, k5, FB, TO, hC, hbm⟩ := T.cls
  have hcl : PySem.W.clsIn X.K C = some { name := nm, bases := bs, mro := .ref C :: bm, ns := N, qualname := q, hasDict := true, slotNames := sn, subclasses := sub, abstract := ab, collection := col, hasDel := false } := by unfold PySem.W.clsIn; rw [hC] <;> rfl
  obtain ⟨t1, ho⟩ := exo_at I.hok e
  obtain ⟨hp, g, d, t, os⟩ := s
  refine PySem.W.set_plain I.kIn (ox := { cls := .ref C, dict := none, data := .fields #[.ref t1, .none, .none, .none, .bool false, .none] }) (od := none) ⟨ho, rfl, rfl, trivial⟩ T.sa ?_
  refine DmX.osaNew TO I.kIn ho hcl (show DmX.ownTail tl (.ref C :: bm) = true from hbm) rfl hno (fun h' tk' dx k dn dne hx hn => ?_)
  have hnd : H dx = none := I.hok.fresh dn
  have nd : ∀ {b : Addr} {o : Obj}, hp.get? b = some o → b ≠ dx := fun {b o} q => Nat.ne_of_lt (Nat.lt_of_lt_of_le (Heap.lt_size q) dn)
  have na : ∀ {b : Addr}, H b = none → b ≠ a := fun {b} n z => by
    rw [z, e] at n
    cases n
  have Un1 : Un X.fs [] H (upd (upd H dx (exd dx [(f, y)])) a (exo a C (some dx))) hp h' := {
    keep := fun b o q n _ _ => k b o (na n) q
    slot := fun b o q n _ _ => ⟨o.slots, k b o (na n) q⟩
    free := fun b o q n _ => by rw [upd_ne (na n), upd_ne (nd q)]; exact n
    there := fun b o q _ => by
      by_cases hb : b = a
      · exact ⟨_, by rw [hb]; exact hx⟩
      · exact ⟨o, k b o hb q⟩
    tups := fun b xs q => by rw [upd_ne (at_ne e q exo_tup), upd_ne (ne_of_none q hnd)]; exact q
    frzs := fun b o v q => by rw [upd_ne (at_ne e q exo_frz), upd_ne (ne_of_none q hnd)]; exact q
    tbls := fun b ps q => ⟨#[], by rw [upd_ne (at_ne e q exo_tbl), upd_ne (ne_of_none q hnd), q]; simp⟩ }
  refine h dx _ hnd dne (I.un (t' := tk') Un1 fun b o q => ?_)
  by_cases hb : b = a
  · subst hb
    rw [upd_same] at q
    cases q
    exact exo_ok hx
  · rw [upd_ne hb] at q
    by_cases hd : b = dx
    · subst hd
      rw [upd_same] at q
      cases q
      exact exd_ok hn (relO_put (fs := []) ry fun g => True.intro)
    · rw [upd_ne hd] at q
      exact (I.hok b o q).stay (fun c v hc z => k c v (by
          rcases hc with hc | hc
          · rw [hc]
            exact hb
          · exact at_ne e hc exo_own) z)
        (fun c hc => by rw [upd_ne (at_ne e hc exo_own), upd_ne (ne_of_none hc hnd)]; exact hc) (fun c xs hc => by rw [upd_ne (at_ne e hc exo_tup), upd_ne (ne_of_none hc hnd)]; exact hc)
theorem exo_old (T : OexG X.K C) (I : Inv X pins σ H s) (e : H a = some (exo a C (some dx))) (ed : H dx = some (exd dx fs)) (hl : fs.length ≤ 900) (hno : PySem.W.findIn X.K (.ref C) f = some none) (ry : RelV y u)
    (h : ∀ s', Inv X pins σ (upd H dx (exd dx ((f, y) :: fs))) s' → Q () s') : wpAny (model X.prog X.w) A (setAttr (.ref a) f u) Q E s := by
  obtain ⟨tl, Bs, newId, initId, nm, q, N, bs, bm, sn, sub, ab, col, dd, k0, k1, k2, k3, k5, FB, TO, hC, hbm⟩ := T.cls
  have hcl : PySem.W.clsIn X.K C = some { name := nm, bases := bs, mro := .ref C :: bm, ns := N, qualname := q, hasDict := true, slotNames := sn, subclasses := sub, abstract := ab, collection := col, hasDel := false } := by unfold PySem.W.clsIn; rw [hC] <;> rfl
  obtain ⟨t1, ho⟩ := exo_at I.hok e
  obtain ⟨mA, hns, rel⟩ := exd_at I.hok ed
  have hw := within_of rel
  obtain ⟨hp, g, d, t, os⟩ := s
  obtain ⟨oD, _, _, hoD, _, _⟩ := hns.count hw
  refine PySem.W.set_plain I.kIn (ox := { cls := .ref C, dict := some dx, data := .fields #[.ref t1, .none, .none, .none, .bool false, .none] }) (od := some oD) ⟨ho, rfl, rfl, hoD⟩ T.sa ?_
  refine DmX.osaOld TO I.kIn ho hns hw (by rw [List.length_map]; omega) hcl (show DmX.ownTail tl (.ref C :: bm) = true from hbm) rfl hno (fun h' tk' k hn => ?_)
  have hd : ∃ o, h'.get? dx = some o := by
    obtain ⟨o, _, _, e', _⟩ := hn
    exact ⟨o, e'⟩
  exact h _ (I.write (t' := tk') (x := dx) (e := dx) (o := exd dx ((f, y) :: fs)) (by rw [ed]; exact True.intro) (.inl rfl) k hd (exd_ok hn (relO_put ry rel)))
end
/-- self.f = e in such an __init__ -/
def tExo (K : PySem.W.Frag) (f : Str) (to te : TE) : TS := fun D σ H => te σ H fun y H1 => to σ H1 fun x H2 => ∃ a C : Addr, x = .ref a ∧ OexG K C ∧ PySem.W.findIn K (.ref C) f = some none ∧
  ((H2 a = some (exo a C none) ∧ ∀ dx, H2 dx = none → dx ≠ a → D.nx σ (upd (upd H2 dx (exd dx [(f, y)])) a (exo a C (some dx)))) ∨
    ∃ (dx : Addr) (fs : List (Str × V)), H2 a = some (exo a C (some dx)) ∧ H2 dx = some (exd dx fs) ∧ fs.length ≤ 900 ∧ D.nx σ (upd H2 dx (exd dx ((f, y) :: fs))))
theorem ps_exo {X : Cx} {o e : Expr} {to te : TE} {f : Str} {p' pos : Pos} (ho : PE X o to) (he : PE X e te) (hs : swapsWith e (some (.Attribute o f p')) pos.line X.env = pure false := by rfl) : PS X (.Assign [.Attribute o f p'] e pos) (tExo X.K f to te) := by
  refine ⟨fun pins s σ H D I h => ?_⟩
  refine plainObj_wpAny_Assign_Attribute (thn (he.run pins s σ H _ I h) fun v s1 ⟨y, H1, I1, r1, q1⟩ => thn (ho.run pins s1 σ H1 _ I1 q1) fun u s2 ⟨x, H2, I2, r2, a, C, ex, T, hno, q⟩ => ?_) hs
  subst ex
  obtain rfl : u = Value.ref a := r2
  rcases q with ⟨ea, q⟩ | ⟨dx, fs, ea, ed, hl, q⟩
  · exact exo_new T I2 ea hno r1 fun dx s' n ne J => ⟨σ, _, J, q dx n ne⟩
  · exact exo_old T I2 ea ed hl hno r1 fun s' J => ⟨σ, _, J, q⟩
end Dm
/-! Dm, part 26: an own exception's __init__ of one store, of two. -/
namespace Dm
open PySem PySem.Spec PyProof.Rows L2
open Evl (Ex)
variable [Lams]
/-- what an own exception's __init__ with the fields fs (in the order of its parameters) does -/
def exLay (a C dx : Addr) (H : Hp) : List (Str × V) → Hp
  | [] => H
  | [(f, y)] => upd (upd H dx (exd dx [(f, y)])) a (exo a C (some dx))
  | [(f, y), (f2, y2)] => upd (upd (upd H dx (exd dx [(f, y)])) a (exo a C (some dx))) dx (exd dx [(f2, y2), (f, y)])
  | _ => H
def spX (C : Addr) (fs : List Str) : Sp := fun vs H Q _ => vs.length = fs.length + 1 ∧ ∃ a ys, vs = .ref a :: ys ∧ H a = some (exo a C none) ∧ ∀ dx, H dx = none → dx ≠ a → Q .non (exLay a C dx H (fs.zip ys))
section
variable {P : Program} {w : World} {K : PySem.W.Frag} {mg : Str → Option Value} {bs : Heap} {x qual : Str} {params : Arguments} {sc : Scope} {dvs : List V} {kws : List (Str × V)} {f : Addr} {fd : FuncData} {k : Nat} {C : Addr}
theorem init1_fnG {sf pa fl : Str} {p1 p2 p3 p4 : Pos} (F : FunD K x qual params [.Assign [.Attribute (.Name sf p1) fl p2] (.Name pa p3) p4] sc dvs kws f fd) (S : FnScope [sf, pa] [sf, pa] sc)
    (T : OexG K C) (hno : PySem.W.findIn K (.ref C) fl = some none) (v0 : Vis sc sf) (v1 : Vis sc pa)
    (d0 : (sf == ("__debug__" : Str)) = false := by decide) (c0 : (sf == ("__classdict__" : Str)) = false := by decide) (d1 : (pa == ("__debug__" : Str)) = false := by decide) (c1 : (pa == ("__classdict__" : Str)) = false := by decide) :
    FnG P w K mg bs (k + 1) f fd [sf, pa] (spX C [fl]) := by
  obtain ⟨oc, od, dV, kV, doc, pm, an, cdv, ct, osl, rfl, lk, hcd, _, _⟩ := F.ex
  refine fnG_of lk hcd S (fun vs H Q E h => h.1) fun A fr s H vs Q E hG rm h => ⟨_, pss_one (ps_exo (f := fl) (pe_var (i := 0) rfl v0 d0 c0) (pe_var (i := 1) rfl v1 d1 c1)), ?_⟩
  obtain ⟨hl, a, ys, rfl, ha, q⟩ := h
  match ys, hl, q with
  | [y], _, q => exact ⟨y, rfl, .ref a, rfl, a, C, rfl, T, hno, .inl ⟨ha, fun dx n ne => q dx n ne⟩⟩
theorem init2_fnG {sf pa pb fl fl2 : Str} {p1 p2 p3 p4 p5 p6 p7 p8 : Pos} (F : FunD K x qual params [.Assign [.Attribute (.Name sf p1) fl p2] (.Name pa p3) p4, .Assign [.Attribute (.Name sf p5) fl2 p6] (.Name pb p7) p8] sc dvs kws f fd) (S : FnScope [sf, pa, pb] [sf, pa, pb] sc)
    (T : OexG K C) (hno : PySem.W.findIn K (.ref C) fl = some none) (hno2 : PySem.W.findIn K (.ref C) fl2 = some none) (v0 : Vis sc sf) (v1 : Vis sc pa) (v2 : Vis sc pb)
    (d0 : (sf == ("__debug__" : Str)) = false := by decide) (c0 : (sf == ("__classdict__" : Str)) = false := by decide) (d1 : (pa == ("__debug__" : Str)) = false := by decide) (c1 : (pa == ("__classdict__" : Str)) = false := by decide)
    (d2 : (pb == ("__debug__" : Str)) = false := by decide) (c2 : (pb == ("__classdict__" : Str)) = false := by decide) :
    FnG P w K mg bs (k + 1) f fd [sf, pa, pb] (spX C [fl, fl2]) := by
  obtain ⟨oc, od, dV, kV, doc, pm, an, cdv, ct, osl, rfl, lk, hcd, _, _⟩ := F.ex
  refine fnG_of lk hcd S (fun vs H Q E h => h.1) fun A fr s H vs Q E hG rm h => ⟨_, pss_cons (ps_exo (f := fl) (pe_var (i := 0) rfl v0 d0 c0) (pe_var (i := 1) rfl v1 d1 c1)) (pss_one (ps_exo (f := fl2) (pe_var (i := 0) rfl v0 d0 c0) (pe_var (i := 2) rfl v2 d2 c2))), ?_⟩
  obtain ⟨hl, a, ys, rfl, ha, q⟩ := h
  match ys, hl, q with
  | [y, y2], _, q =>
    refine ⟨y, rfl, .ref a, rfl, a, C, rfl, T, hno, .inl ⟨ha, fun dx n ne => ⟨y2, rfl, .ref a, rfl, a, C, rfl, T, hno2, .inr ⟨dx, [(fl, y)], upd_same, ?_, (by show 1 ≤ 900; decide), q dx n ne⟩⟩⟩⟩
    rw [upd_ne ne, upd_same]
end
end Dm
set_option maxHeartbeats 2000000
/-! Dm, part 27: C(e, ..), an own exception with an __init__ that stores its arguments. -/
namespace Dm
open PySem PySem.Spec PyProof.Rows L2
open Evl (Ex)
variable [Lams]
def datsOf : List W → Option (List D)
  | [] => some []
  | .dat d :: r => (datsOf r).map (d :: ·)
  | _ => none
/-- the fields as the dict holds them -/
def exF : List Str → List D → Option (List (Str × D))
  | [f], [d] => some [(f, d)]
  | [f, f2], [d, d2] => some [(f2, d2), (f, d)]
  | _, _ => none
def exEnd (c : Str) (fls : List Str) (j : Nat) (m : Mem) (ws : List W) : Run W := match ws with
  | .hdl i :: r => (if i = j then (datsOf r).bind fun ds => (exF fls ds).map fun fs => (Out.ok (.dat (.exc c fs)), m) else none)
  | _ => none
theorem dats_rep {K : PySem.W.Frag} {B : Hp} {al : Pl} {n : Nat} : ∀ {vs : List V} {ws : List W} {ds : List D}, RepL K B al n vs ws → datsOf ws = some ds → Reps K B vs ds
  | [], [], _, _, e => by cases e; exact .nil
  | _ :: _, .dat d :: r, _, h, e => by
    obtain ⟨ds, e2, rfl⟩ := Option.map_eq_some_iff.mp e
    exact .cons h.1 (dats_rep h.2 e2)
theorem exLay_rep {K : PySem.W.Frag} {B H : Hp} {al : Pl} {m : Mem} {c : Str} {a dx : Addr} {fls : List Str} {ys : List V} {ds : List D} {fs : List (Str × D)} (wd : Wd K B al m H) (r : Reps K B ys ds) (e : exF fls ds = some fs) (ha : H a = none) (hd : H dx = none) (ne : dx ≠ a) :
    ∃ B', Ex B B' ∧ Wd K B' al m (exLay a (He.ga K c) dx (upd H a (exo a (He.ga K c) none)) (fls.zip ys)) ∧ Rep K B' (.ref a) (.exc c fs) := by
  have big : ∀ {gs : List (Str × V)}, RepF K B gs fs → exLay a (He.ga K c) dx (upd H a (exo a (He.ga K c) none)) (fls.zip ys) = upd (upd H dx (exd dx gs)) a (exo a (He.ga K c) (some dx)) → ∃ B', Ex B B' ∧ Wd K B' al m (exLay a (He.ga K c) dx (upd H a (exo a (He.ga K c) none)) (fls.zip ys)) ∧ Rep K B' (.ref a) (.exc c fs) := fun {gs} rf eq => by
    have g1 := Gr.lay wd.ext (o := exd dx gs) hd
    have ha' : upd H dx (exd dx gs) a = none := by rw [upd_ne ne.symm]; exact ha
    have wd1 := wd.grow g1
    have g2 := Gr.lay wd1.ext (o := exo a (He.ga K c) (some dx)) ha'
    have wd2 := wd1.grow g2
    rw [eq]
    exact ⟨_, g1.b.trans g2.b, wd2, .exc upd_same (by rw [upd_ne ne, upd_same]) (rf.mono (g1.b.trans g2.b))⟩
  have up2 : ∀ {G : Hp} {o o' : HO}, upd (upd G a o) a o' = upd G a o' := fun {G o o'} => by
    funext b; by_cases z : b = a
    · rw [z, upd_same, upd_same]
    · rw [upd_ne z, upd_ne z, upd_ne z]
  have sw : ∀ {G : Hp} {o o' : HO}, upd (upd G a o) dx o' = upd (upd G dx o') a o := fun {G o o'} => by
    funext b; by_cases z : b = a
    · subst z; rw [upd_same, upd_ne ne.symm, upd_same]
    · by_cases y : b = dx
      · subst y; rw [upd_same, upd_ne z, upd_same]
      · rw [upd_ne y, upd_ne z, upd_ne z, upd_ne y]
  have up3 : ∀ {G : Hp} {o o' : HO}, upd (upd G dx o) dx o' = upd G dx o' := fun {G o o'} => by
    funext b; by_cases z : b = dx
    · rw [z, upd_same, upd_same]
    · rw [upd_ne z, upd_ne z, upd_ne z]
  match fls, ds, e, ys, r with
  | [f], [d], e, [y], .cons r1 .nil =>
    cases e
    refine big (gs := [(f, y)]) (.cons r1 .nil) ?_
    show upd (upd (upd H a _) dx _) a _ = _
    rw [sw, up2]
  | [f, f2], [d, d2], e, [y, y2], .cons r1 (.cons r2 .nil) =>
    cases e
    refine big (gs := [(f2, y2), (f, y)]) (.cons r2 (.cons r1 .nil)) ?_
    show upd (upd (upd (upd H a _) dx _) a _) dx _ = _
    rw [sw, up3, sw, up2]
section
variable {X : Cx}
theorem exc_run {k n : Nat} {c : Str} {f : Addr} {fd : FuncData} {ps ks fls : List Str} {gW : List W → List W → List W} (T : OexG X.K (He.ga X.K c)) (iC : PySem.W.findIn X.K (.ref (He.ga X.K c)) "__init__" = some (some (.ref f))) (tI : PySem.W.typeIn X.K (.ref f) = some (.type "function"))
    (F : FnG X.prog X.w X.K X.mg X.base k f fd ps (spX (He.ga X.K c) fls)) (hr : Room (k + 1) X.A) (hG : X.A.guards = some []) (hb : Bdg X.K fd ps (n + 1) ks gW) (hps : ps.length = fls.length + 1)
    {B B2 : Hp} {al al2 : Pl} {m m2 m' : Mem} {σ : L2.St} {H2 : Hp} {Q : VK} {o : Out W} (h : AnsE X B al m.length σ Q m' o) (l : m.length ≤ m2.length) (e2 : Ex B B2) (g2 : Agr m.length al al2) (wd2 : Wd X.K B2 al2 m2 H2) {vs zs : List V} {ws us : List W}
    (r1 : RepL X.K B2 al2 m2.length vs ws) (r2 : RepL X.K B2 al2 m2.length zs us) (hl1 : ws.length = n) (hl2 : us.length = ks.length) (hn : n ≤ 1000) (q : exEnd c fls m2.length m2 (gW (.hdl m2.length :: ws) us) = some (o, m'))
    {pins : List (Addr × Obj)} {s : Shared} (I : Inv X pins σ H2 s) {uv kv : List Value} (rv : Vals vs uv) (rk : Vals zs kv) : wpAny (model X.prog X.w) X.A (call (.ref (He.ga X.K c)) uv (ks.zip kv)) (EP X pins σ Q) X.xe s := by
  obtain ⟨g, gV, hbn, hvl, hrel⟩ := hb.ex
  obtain ⟨tl, Bs, newId, initId, nm, qn, N, bs, bm, sn, sub, ab, col, dd, k0, k1, k2, k3, k5, FB, TO, hC, hbm⟩ := T.cls
  have lv : vs.length = n := r1.length.trans hl1
  have lz : zs.length = ks.length := r2.length.trans hl2
  obtain ⟨hp, gg, dr, tk, os⟩ := s
  have hsz : hp.objs.size ≤ hp.objs.size + 1 := Nat.le_succ _
  have hx : H2 (hp.objs.size + 1) = none := I.hok.fresh hsz
  have kk : ∀ b o, hp.get? b = some o → ((hp.push (PySem.W.kdv_tup uv)).push (PySem.HandSPX.excO (He.ga X.K c) hp.objs.size)).get? b = some o := fun b o e => Heap.get?_push_of_some _ (Heap.get?_push_of_some _ e)
  have hget : ((hp.push (PySem.W.kdv_tup uv)).push (PySem.HandSPX.excO (He.ga X.K c) hp.objs.size)).get? (hp.objs.size + 1) = some (PySem.HandSPX.excO (He.ga X.K c) hp.objs.size) := by heap_get
  have I2 : Inv X pins σ (upd H2 (hp.objs.size + 1) (exo (hp.objs.size + 1) (He.ga X.K c) none)) ⟨(hp.push (PySem.W.kdv_tup uv)).push (PySem.HandSPX.excO (He.ga X.K c) hp.objs.size), gg, dr, tk, os⟩ :=
    I.laid (t' := tk) (a := hp.objs.size + 1) (o := exo (hp.objs.size + 1) (He.ga X.K c) none) (h' := (hp.push (PySem.W.kdv_tup uv)).push (PySem.HandSPX.excO (He.ga X.K c) hp.objs.size)) kk hsz (exo_ok hget)
  have a4 : Agr m2.length al2 (alx al2 m2.length (hp.objs.size + 1)) := ⟨fun k hk => alx_old hk, rfl⟩
  have rS : RepL X.K B2 (alx al2 m2.length (hp.objs.size + 1)) (m2.length + 1) (.ref (hp.objs.size + 1) :: vs) (.hdl m2.length :: ws) := ⟨⟨by rw [alx_here], by omega⟩, r1.mono (Ex.refl _) a4 (by omega)⟩
  have rZ : RepL X.K B2 (alx al2 m2.length (hp.objs.size + 1)) (m2.length + 1) zs us := r2.mono (Ex.refl _) a4 (by omega)
  have lvn : (V.ref (hp.objs.size + 1) :: vs).length = n + 1 := congrArg (· + 1) lv
  have rW := hrel B2 _ _ _ _ _ _ lvn lz rS rZ
  have rv' : Vals (V.ref (hp.objs.size + 1) :: vs) (Value.ref (hp.objs.size + 1) :: uv) := Paired.cons (show RelV (V.ref (hp.objs.size + 1)) (Value.ref (hp.objs.size + 1)) from rfl) rv
  have rr := hbn.rel rv' rk
  have hlen : (gV (.ref (hp.objs.size + 1) :: vs) zs).length = ps.length := hvl _ _ lvn lz
  have bt := hbn.to ⟨(hp.push (PySem.W.kdv_tup uv)).push (PySem.HandSPX.excO (He.ga X.K c) hp.objs.size), gg, dr, tk, os⟩ (.ref (hp.objs.size + 1) :: uv) kv I2.kIn (by rw [List.length_cons, ← rv.length, lv]) (rk.length.symm.trans lz)
  have hus : uv.length ≤ sizeLine := by rw [← Paired.length rv, sizeLine_eq]; omega
  generalize hgv : gV (.ref (hp.objs.size + 1) :: vs) zs = gvs at rW rr hlen
  generalize hgw : gW (.hdl m2.length :: ws) us = gws at rW q
  match gws, q, rW with
  | .hdl i :: r, q, rW =>
  have q' : (if i = m2.length then (datsOf r).bind fun ds => (exF fls ds).map fun fs => (Out.ok (.dat (.exc c fs)), m2) else none) = some (o, m') := q
  split at q'
  rotate_left
  · cases q'
  next hi =>
  subst hi
  obtain ⟨ds, ed, q2⟩ := Option.bind_eq_some_iff.mp q'
  obtain ⟨fs, ef, q3⟩ := Option.map_eq_some_iff.mp q2
  cases q3
  match gvs, rW, hlen, rr with
  | v0 :: ys, rW, hlen, rr =>
  obtain ⟨⟨e0, _⟩, ry⟩ := rW
  rw [alx_here] at e0
  subst e0
  have rd := dats_rep ry ed
  refine wpAny_call (DmX.callK FB (fun Y => DmX.ownTail_contains Y bm hbm) (I.kIn _ _ hC) (PySem.W.looks_findIn I.kIn iC) (fun self => PySem.W.bind_fn I.kIn self tI) hus
    (codeAny_mono (F.run _ X.stack _ _ ⟨Value.ref (hp.objs.size + 1) :: uv, ks.zip kv⟩ _ _ (fun v H3 => v = .non ∧ Q (.ref (hp.objs.size + 1)) H3) E0 (under_guards hG) (hr.make _ uv _) (I2.env0.make _ uv _) bt rr
      ⟨by rw [hlen, hps], _, ys, rfl, upd_same, fun dx hd ne => ⟨rfl, ?_⟩⟩) fun r s' hq => ?_))
  · obtain ⟨B', x', wd', rep'⟩ := exLay_rep (c := c) wd2 rd ef hx (by rw [upd_ne ne] at hd; exact hd) ne
    exact h B' al2 _ _ (e2.trans x') g2 wd' rep'
  · cases r with
    | error er => exact (passL pins _ _ _ er s' I2 hq)
    | ok fl =>
      cases fl with
      | ret u =>
        obtain ⟨v, H', I3, rv3, ev, q3⟩ := I2.after hq
        subst ev
        exact ⟨rv3, ⟨V.ref (hp.objs.size + 1), H', I3, rfl, q3⟩⟩
      | next => exact False.elim hq
      | brk => exact False.elim hq
      | cont => exact False.elim hq
end
end Dm
/-! Dm, part 28: C(e, ..), C an own exception: the expression. -/
namespace Dm
open PySem PySem.Spec PyProof.Rows L2
open Evl (Ex)
variable [Lams]
/-- an own exception class that is made by its own __init__ -/
structure ExcK (P : Program) (w : World) (K : PySem.W.Frag) (mg : Str → Option Value) (bs : Heap) (c : Str) (k n : Nat) (ks fls : List Str) (gW : List W → List W → List W) : Prop where
  oex : OexG K (He.ga K c)
  ex : ∃ f fd ps, PySem.W.findIn K (.ref (He.ga K c)) "__init__" = some (some (.ref f)) ∧ PySem.W.typeIn K (.ref f) = some (.type "function") ∧ FnG P w K mg bs k f fd ps (spX (He.ga K c) fls) ∧ Bdg K fd ps (n + 1) ks gW ∧ ps.length = fls.length + 1
  n : n ≤ 1000
def mExc (c : Str) (fls : List Str) (n nk : Nat) (gW : List W → List W → List W) (ma mk : AM) : EM := fun ρ m => bnd (ma ρ m) fun ws m1 => bnd (mk ρ m1) fun us m2 => if ws.length = n ∧ us.length = nk then exEnd c fls m2.length m2 (gW (.hdl m2.length :: ws) us) else none
theorem exEnd_len {c : Str} {fls : List Str} {j : Nat} {m m' : Mem} {ws : List W} {o : Out W} (q : exEnd c fls j m ws = some (o, m')) : m' = m := by
  unfold exEnd at q
  split at q
  · split at q
    · obtain ⟨ds, _, q2⟩ := Option.bind_eq_some_iff.mp q
      obtain ⟨fs, _, q3⟩ := Option.map_eq_some_iff.mp q2
      cases q3; rfl
    · cases q
  · cases q
section
variable {X : Cx} {c : Str} {e : Expr} {es : List Expr} {kws : List Keyword} {ma mk : AM} {p pos : Pos} {j k n : Nat} {ks fls : List Str} {gW : List W → List W → List W}
theorem exc_len {nk : Nat} (ha : ∀ ρ m oo m', ma ρ m = some (oo, m') → m.length ≤ m'.length) (hw : ∀ ρ m oo m', mk ρ m = some (oo, m') → m.length ≤ m'.length) : ∀ ρ m oo m', mExc c fls n nk gW ma mk ρ m = some (oo, m') → m.length ≤ m'.length := fun ρ m oo m' q => by
  rcases bnd_cases q with ⟨ws, m1, e1, q1⟩ | ⟨cc, fs, e1, rfl⟩
  · have l1 := ha _ _ _ _ e1
    rcases bnd_cases q1 with ⟨us, m2, e2, q2⟩ | ⟨cc, fs, e2, rfl⟩
    · have l2 := hw _ _ _ _ e2
      split at q2
      · rw [exEnd_len q2]; exact Nat.le_trans l1 l2
      · cases q2
    · exact Nat.le_trans l1 (hw _ _ _ _ e2)
  · exact ha _ _ _ _ e1
theorem se_exc (F : ExcK X.prog X.w X.K X.mg X.base c j n [] fls gW) (hj : j ≤ k) (hr : Room (k + 1) X.A) (hG : X.A.guards = some []) (hg : Gl X c) (hm : X.mg c = some (.ref (He.ga X.K c)))
    (ha : SA X (e :: es) ma) (h0 : noStar e = true := by rfl) (h1 : es.all noStar = true := by rfl) (hdb : (c == ("__debug__" : Str)) = false := by decide) : SE X (.Call (.Name c p) (e :: es) [] pos) (mExc c fls n 0 gW ma mNil) := by
  obtain ⟨T, ⟨f, fd, ps, iC, tI, G, b, hps⟩, hn⟩ := F
  refine ⟨exc_len ha.len (sk_nil (X := X)).len, fun ρ m o m' q B al σ H Q wd rs h pins s I => ?_⟩
  refine wpAny_Call_Name_kw (ld_glob I hg hm ?_ hdb)
  refine PySem.W.callWith_K (h₀ := X.base) I.ok.mod.kin T.kC (thn (ha.seq (Q' := fun vs H1 => ∀ pins s1 us, Inv X pins σ H1 s1 → Vals vs us → wpAny (model X.prog X.w) X.A (call (.ref (He.ga X.K c)) us) (EP X pins σ Q) X.xe s1) q wd rs h.res (fun ws m1 q1 l1 B1 al1 vs1 H1 e1 g1 wd1 r1 pins s1 us I1 ru => ?_) pos pins s I)
    fun us s1 ⟨vs, H1, I1, r, q⟩ => ⟨I1.kIn, q pins s1 us I1 r⟩) (starEach_cons h0) (star_any h1)
  have q2 : (if ws.length = n ∧ ([] : List W).length = 0 then exEnd c fls m1.length m1 (gW (.hdl m1.length :: ws) []) else none) = some (o, m') := q1
  split at q2
  · next hl => exact exc_run (ks := []) (kv := []) (zs := []) (us := []) T iC tI (G.mono hj) hr hG b hps h l1 e1 g1 wd1 r1 trivial hl.1 rfl hn q2 I1 ru .nil
  · cases q2
theorem se_excK0 (F : ExcK X.prog X.w X.K X.mg X.base c j 0 ks fls gW) (hj : j ≤ k) (hr : Room (k + 1) X.A) (hG : X.A.guards = some []) (hg : Gl X c) (hm : X.mg c = some (.ref (He.ga X.K c)))
    (hw : SK X kws mk) (hall : (kws.map (·.arg)).all (·.isSome) = true := by rfl) (hks : (kws.map (·.arg)).filterMap id = ks := by rfl) (hdb : (c == ("__debug__" : Str)) = false := by decide) :
    SE X (.Call (.Name c p) [] kws pos) (mExc c fls 0 ks.length gW mNil mk) := by
  obtain ⟨T, ⟨f, fd, ps, iC, tI, G, b, hps⟩, hn⟩ := F
  refine ⟨exc_len (sa_nil (X := X)).len hw.len, fun ρ m o m' q B al σ H Q wd rs h pins s I => ?_⟩
  refine wpAny_Call_Name_kw (ld_glob I hg hm ?_ hdb)
  have q' : bnd (mk ρ m) (fun us m2 => if ([] : List W).length = 0 ∧ us.length = ks.length then exEnd c fls m2.length m2 (gW [.hdl m2.length] us) else none) = some (o, m') := q
  refine PySem.W.callWith_KW0 (h₀ := X.base) I.ok.mod.kin T.kC (kw_all hall) ?_ (by show (false || _) = false; rw [kw_any hall]; rfl)
  rw [kw_ks hks]
  refine thn (hw.seq (Q' := fun zs H2 => ∀ pins s2 ks2, Inv X pins σ H2 s2 → Vals zs ks2 → wpAny (model X.prog X.w) X.A (call (.ref (He.ga X.K c)) [] (ks.zip ks2)) (EP X pins σ Q) X.xe s2) q' wd rs h.res (fun us2 m2 q2 l2 B2 al2 vs2 H2 e2 g2 wd2 r2 pins s2 ks2 I2 rk => ?_) pos pins s I)
    fun ks2 s2 ⟨zs, H2, I2, rk, q⟩ => ⟨I2.kIn, q pins s2 ks2 I2 rk⟩
  split at q2
  · next hl => exact exc_run (uv := []) (vs := []) (ws := []) T iC tI (G.mono hj) hr hG b hps h l2 e2 g2 wd2 trivial r2 rfl hl.2 hn q2 I2 .nil rk
  · cases q2
end
end Dm
/-! Dm, part 29: e.f, e an own exception as data. -/
namespace Dm
open PySem PySem.Spec PyProof.Rows L2
open Evl (Ex)
variable [Lams]
def fXf (c : Str) (f : Str) : D → Option D
  | .exc c' fs => if c' = c then fs.lookup f else none
  | _ => none
theorem se_xf {X : Cx} {e : Expr} {me : EM} {f c : Str} {pos : Pos} (he : SE X e me) (T : XfC X.K (He.ga X.K c)) (hno : PySem.W.findIn X.K (.ref (He.ga X.K c)) f = some none) (hb : attributeBase e f X.env (eval e X.env) = eval e X.env := by rfl) : SE X (.Attribute e f pos) (mUn (fXf c f) me) := by
  refine ⟨un_len he, fun ρ m o m' q B al σ H Q wd rs h pins s I => ?_⟩
  have t := un_run (r := fun x H Q => ∃ a dx gs v, x = .ref a ∧ H a = some (exo a (He.ga X.K c) (some dx)) ∧ H dx = some (exd dx gs) ∧ gs.lookup f = some v ∧ Q v H) (fun dx d hf B H x e hx Q k => ?_) he q wd rs h
  · refine attr_of hb (thn (t pins s I) fun u s1 ⟨x, H1, I1, rx, a, dx, gs, v, ex, ea, ed, l, q⟩ => ?_)
    subst ex
    obtain rfl : u = Value.ref a := rx
    obtain ⟨t1, ho⟩ := exo_at I1.hok ea
    obtain ⟨mA, hns, hr⟩ := exd_at I1.hok ed
    obtain ⟨od, hod, hl⟩ := lookIn_ns hns
    obtain ⟨u, hu, ru⟩ := RelO.some_of (v := v) (o := mA f) (by rw [← l]; exact hr f)
    have J : PySem.W.InstAt s1.heap a _ (He.ga X.K c) (some od) := ⟨ho, rfl, rfl, hod⟩
    exact HandSPX.exc_get I1.kIn J T.ga T.gg T.exC (PySem.W.findObj_own T.hdC hno rfl (by rw [hl, hu])) (handed_of ru) ⟨v, H1, I1.tok _, ru, q⟩
  · cases dx with
    | exc c' fs =>
      have hf' : (if c' = c then fs.lookup f else none) = some d := hf
      split at hf'
      · next hcc =>
        subst hcc
        cases (hx : Rep X.K B x (.exc c' fs)) with
        | exc0 _ => cases hf'
        | exc h1 h2 r =>
          rcases repF_lookup (f := f) r with ⟨z, _⟩ | ⟨d', v, z1, z2, z3⟩
          · rw [z] at hf'; cases hf'
          · rw [z1] at hf'; cases hf'
            exact ⟨_, _, _, v, rfl, e _ _ h1, e _ _ h2, z2, k B v H (Gr.refl e) z3⟩
      · cases hf'
    | _ => cases hf
end Dm
/-! Dm, part 30: isinstance(e, C), e an own exception as data. -/
namespace Dm
open PySem PySem.Spec PyProof.Rows L2
open Evl (Ex)
variable [Lams]
def fIsX (tab : Str → D → Option Bool) : List D → Option D
  | [.exc c _, t] => (tab c t).map .bl
  | _ => none
/-- what isinstance asks of an own exception class -/
structure IsC (K : PySem.W.Frag) (C : Addr) : Prop where
  cl : (PySem.W.clsIn K C).isSome = true
  ga : PySem.W.findIn K (.ref C) "__getattribute__" = some (some (.builtin "BaseException.__getattribute__"))
  gg : PySem.W.findIn K (.ref C) "__getattr__" = some none
  ex : PySem.W.subIn K (.ref C) (.type "BaseException") = some true
  ha : PySem.W.findIn K (.ref C) "__class__" = some (some (.builtin "object.__class__"))
  hn : PySem.W.specialIn K (.builtin "object.__class__") "__get__" = some (some (.builtin "getset_descriptor.__get__"))
  tk : PySem.W.takesIn K (.builtin "object.__class__") = some true
  hm : PySem.W.mroIn K C (.type "object") = some true
def clsD (K : PySem.W.Frag) : D → Option Value
  | .cl c => some (.ref (He.ga K c))
  | .ty n => some (.type n)
  | _ => none
structure IsT (K : PySem.W.Frag) (tab : Str → D → Option Bool) : Prop where
  ok : ∀ c t b, tab c t = some b → IsC K (He.ga K c) ∧ ∃ u, clsD K t = some u ∧ PySem.W.kitOne K (.ref (He.ga K c)) u = some b
theorem cd_isx {X : Cx} {tab : Str → D → Option Bool} (T : IsT X.K tab) : CallR X (.builtin "isinstance") (rCD X (fIsX tab)) := by
  rintro pins s σ H xs us Q I rs ⟨B, ds, d, e, hx, hf, k⟩
  unfold fIsX at hf
  split at hf
  · next c fs t =>
    obtain ⟨b, hb, rfl⟩ := Option.map_eq_some_iff.mp hf
    obtain ⟨x, y, rfl, hv, hy⟩ := vwl2 hx
    obtain ⟨C, u, hu, hk⟩ := T.ok c t b hb
    obtain ⟨u1, u2, rfl, r1, r2⟩ := vals2 rs
    have e2 : u2 = u := by
      cases t with
      | cl c2 => cases hu; cases (show Rep X.K B y (.cl c2) from hy); exact r2
      | ty n => cases hu; cases (show Rep X.K B y (.ty n) from hy); exact r2
      | _ => cases hu
    subst e2
    cases (show Rep X.K B x (.exc c fs) from hv) with
    | exc0 h1 =>
      cases r1
      obtain ⟨t1, ho⟩ := exo_at I.hok (e _ _ h1)
      exact PySem.W.kia_one (PySem.W.kitx_exc (od := none) C.cl C.ga C.gg C.ex C.ha C.hn C.tk C.hm) I.kIn ⟨ho, rfl, rfl, trivial⟩ hk (fun z => nomatch z) fun tk => ⟨.bl b, H, I.tok tk, rfl, k B _ H (Gr.refl e) (.bl _)⟩
    | exc h1 h2 r =>
      cases r1
      obtain ⟨t1, ho⟩ := exo_at I.hok (e _ _ h1)
      obtain ⟨mA, hns, hr⟩ := exd_at I.hok (e _ _ h2)
      obtain ⟨od, hod, hl⟩ := lookIn_ns hns
      exact PySem.W.kia_one (PySem.W.kitx_exc (od := some od) C.cl C.ga C.gg C.ex C.ha C.hn C.tk C.hm) I.kIn ⟨ho, rfl, rfl, hod⟩ hk (fun z => nomatch z) fun tk => ⟨.bl b, H, I.tok tk, rfl, k B _ H (Gr.refl e) (.bl _)⟩
  · cases hf
end Dm
/-! Dm, part 31: C(), C an own exception without an __init__. -/
namespace Dm
open PySem PySem.Spec PyProof.Rows L2
open Evl (Ex)
variable [Lams]
structure OexB (K : PySem.W.Frag) (C : Addr) : Prop where
  cls : ∃ (tl : List Value) (Bs newId initId : String) (nm q : Str) (N : Addr) (bs bm : List Value) (sn : List Str) (sub : List Value) (ab : Bool) (col : Option Bool) (dd : Option Addr) (k0 k1 k2 k3 k5 : Option Value),
    ExcBaseFacts Bs newId initId tl ∧ K.lookup C = some (excClassObj nm q C N bs bm true sn sub ab col dd k0 k1 k2 k3 k5 newId) ∧ DmX.ownTail tl bm = true ∧ PySem.W.findIn K (.ref C) "__init__" = some (some (.builtin initId))
  kC : PySem.W.keepIn K (.ref C) = true
def mExc0 (c : Str) : EM := fun _ m => some (.ok (.dat (.exc c [])), m)
theorem se_exc0 {X : Cx} {c : Str} {p pos : Pos} (T : OexB X.K (He.ga X.K c)) (hg : Gl X c) (hm : X.mg c = some (.ref (He.ga X.K c))) (hdb : (c == ("__debug__" : Str)) = false := by decide) : SE X (.Call (.Name c p) [] [] pos) (mExc0 c) := by
  refine ⟨fun ρ m o m' q => by cases q; exact Nat.le_refl _, fun ρ m o m' q B al σ H Q wd rs h pins s I => ?_⟩
  cases q
  refine wpAny_Call_Name_kw (ld_glob I hg hm ?_ hdb)
  refine PySem.W.callWith_K0 I.kIn T.kC ?_
  obtain ⟨tl, Bs, newId, initId, nm, qn, N, bs, bm, sn, sub, ab, col, dd, k0, k1, k2, k3, k5, FB, hC, hbm, hi⟩ := T.cls
  obtain ⟨hp, gg, dr, tk, os⟩ := s
  refine PySem.W.call_B FB (fun Y => DmX.ownTail_contains Y bm hbm) (I.kIn _ _ hC) (PySem.W.looks_findIn I.kIn hi) (Nat.zero_le _) fun h' kk e1 e2 => ?_
  have hsz : hp.objs.size ≤ hp.objs.size + 1 := Nat.le_succ _
  have hx : H (hp.objs.size + 1) = none := I.hok.fresh hsz
  have g1 := Gr.lay wd.ext (o := exo (hp.objs.size + 1) (He.ga X.K c) none) hx
  exact ⟨V.ref (hp.objs.size + 1), _, I.laid (t' := tk) (a := hp.objs.size + 1) (o := exo (hp.objs.size + 1) (He.ga X.K c) none) (h' := h') kk hsz (exo_ok e1), rfl, h _ al _ _ g1.b Agr.refl (wd.grow g1) (.exc0 upd_same)⟩
end Dm
/-! Dm, part 32: a hook that looks at the written part for more than the kit's facts. -/
namespace Dm
open PySem PySem.Spec PyProof.Rows L2
variable [Lams]
abbrev AlX : Type := He.AlD × Bool
def obsX (n : Nat) (fa : List He.Fa) (fn : List He.DefD) (ex : PySem.W.Frag → Bool) (g : Addr → Option Obj) : AlX := (He.obsDG n fa fn g, ex (He.frG g (He.asD g n)))
def hookX (n : Nat) (fa : List He.Fa) (fn : List He.DefD) (ex : PySem.W.Frag → Bool) : PySem.W.Hook where
  α := AlX
  obs := fun s => obsX n fa fn ex s.heap.get?
  val := fun _ => (He.valD fn, true)
  says := fun _ h => ∃ K : PySem.W.Frag, K.In h ∧ He.SaysD fa fn K ∧ ex K = true
  of := fun _ _ e => ⟨_, He.frG_in, congrArg (fun z : AlX => z.1) e, congrArg (fun z : AlX => z.2) e⟩
  keeps := fun _ _ _ ⟨K, hK, c, d⟩ k => ⟨K, PySem.W.Frag.In.keeps hK k, c, d⟩
theorem obsX_eq {n : Nat} {fa : List He.Fa} {fn : List He.DefD} {ex : PySem.W.Frag → Bool} {g : Addr → Option Obj} {s : Shared} (h : ∀ a, g a = s.heap.get? a) : obsX n fa fn ex g = (hookX n fa fn ex).obs s := by
  have e : g = s.heap.get? := funext h
  rw [e] <;> rfl
end Dm
/-! Dm, part 33: checks of own exception classes. -/
namespace Dm
open PySem PySem.Spec PyProof.Rows L2
variable [Lams]
def oexCls (K : PySem.W.Frag) (C : Addr) (tl : List Value) (newId : String) : Bool := match K.lookup C with
  | some ⟨.type "type", _, .cls cd, sl⟩ => (match cd.mro, sl.toList with
    | .ref C' :: bm, [_, _, _, _, some (.builtin n), _] => C' == C && n == newId && !cd.hasDel && cd.hasDict && DmX.ownTail tl bm
    | _, _ => false)
  | _ => false
theorem oexCls_ok {K : PySem.W.Frag} {C : Addr} {tl : List Value} {newId : String} (q : oexCls K C tl newId = true) : ∃ nm qn N bs bm sn sub ab col dd k0 k1 k2 k3 k5, K.lookup C = some (excClassObj nm qn C N bs bm true sn sub ab col dd k0 k1 k2 k3 k5 newId) ∧ DmX.ownTail tl bm = true := by
  unfold oexCls at q
  split at q
  · rename_i dd cd sl ho
    split at q
    · rename_i C' bm k0 k1 k2 k3 n k5 hm hs
      simp only [Bool.and_eq_true, beq_iff_eq, Bool.not_eq_true'] at q
      obtain ⟨⟨⟨⟨rfl, rfl⟩, hdel⟩, hdct⟩, ht⟩ := q
      obtain ⟨nm, bs, mro, ns, qn, hd, sn, sb, ab, col, del⟩ := cd
      dsimp only at hm hdel hdct
      subst hm hdel hdct
      have hsl : sl = #[k0, k1, k2, k3, some (.builtin n), k5] := by
        apply Array.toList_inj.mp; exact hs
      subst hsl
      exact ⟨nm, qn, ns, bs, bm, sn, sb, ab, col, dd, k0, k1, k2, k3, k5, ho, ht⟩
    · cases q
  · cases q
end Dm
/-! Dm, part 34: from checks to the facts of own exception classes. -/
namespace Dm
open PySem PySem.Spec PyProof.Rows L2
variable [Lams]
inductive EB where | ve | le | re | ae
def EB.tl : EB → List Value
  | .ve => [.type "ValueError", .type "Exception", .type "BaseException", .type "object"]
  | .le => [.type "LookupError", .type "Exception", .type "BaseException", .type "object"]
  | .re => [.type "RuntimeError", .type "Exception", .type "BaseException", .type "object"]
  | .ae => [.type "ArithmeticError", .type "Exception", .type "BaseException", .type "object"]
def EB.nm : EB → String
  | .ve => "ValueError" | .le => "LookupError" | .re => "RuntimeError" | .ae => "ArithmeticError"
def EB.new : EB → String
  | .ve => "ValueError.__new__" | .le => "LookupError.__new__" | .re => "RuntimeError.__new__" | .ae => "ArithmeticError.__new__"
def EB.ini : EB → String
  | .ve => "ValueError.__init__" | .le => "LookupError.__init__" | .re => "RuntimeError.__init__" | .ae => "ArithmeticError.__init__"
theorem EB.base : ∀ b : EB, ExcBaseFacts b.nm b.new b.ini b.tl
  | .ve => F.excBase_ValueError
  | .le => F.excBase_LookupError
  | .re => F.excBase_RuntimeError
  | .ae => F.excBase_ArithmeticError
theorem EB.tail : ∀ b : EB, DmX.TailOk b.tl
  | .ve => DmX.tailVE
  | .le => DmX.tailLE
  | .re => DmX.tailRE
  | .ae => DmX.tailAE
/-- the check of one class: its base -/
def exB (K : PySem.W.Frag) (c : Str) (b : EB) : Bool :=
  oexCls K (He.ga K c) b.tl b.new && decide (PySem.W.findIn K (.ref (He.ga K c)) "__setattr__" = some (some (.builtin "object.__setattr__"))) && decide (PySem.W.typeIn K (.ref (He.ga K c)) = some (.type "type")) && PySem.W.keepIn K (.ref (He.ga K c))
    && xfB K (He.ga K c) && decide (PySem.W.findIn K (.ref (He.ga K c)) "__class__" = some (some (.builtin "object.__class__"))) && decide (PySem.W.mroIn K (He.ga K c) (.type "object") = some true)
theorem exB_oex {K : PySem.W.Frag} {c : Str} {b : EB} (h : exB K c b = true) : OexG K (He.ga K c) := by
  simp only [exB, Bool.and_eq_true, decide_eq_true_eq] at h
  obtain ⟨⟨⟨⟨⟨⟨h1, h2⟩, h3⟩, h4⟩, h5⟩, h6⟩, h7⟩ := h
  obtain ⟨nm, qn, N, bs, bm, sn, sub, ab, col, dd, k0, k1, k2, k3, k5, e1, e2⟩ := oexCls_ok h1
  exact ⟨⟨_, _, _, _, nm, qn, N, bs, bm, sn, sub, ab, col, dd, k0, k1, k2, k3, k5, b.base, b.tail, e1, e2⟩, h2, h3, h4⟩
theorem exB_xf {K : PySem.W.Frag} {c : Str} {b : EB} (h : exB K c b = true) : XfC K (He.ga K c) := by
  simp only [exB, Bool.and_eq_true, decide_eq_true_eq] at h
  obtain ⟨⟨⟨⟨⟨⟨h1, h2⟩, h3⟩, h4⟩, h5⟩, h6⟩, h7⟩ := h
  exact xfB_ok h5
end Dm
/-! Dm, part 35: a table of the own exception classes of a law. -/
namespace Dm
open PySem PySem.Spec PyProof.Rows L2
open Evl (Ex)
variable [Lams]
def EB.tyl (b : EB) : List String := [b.nm, "Exception", "BaseException", "object"]
/-- one own exception class: its name, its base, the fields its __init__ stores, its own ancestors with itself -/
structure XRow where
  c : Str
  b : EB
  flds : List Str
  anc : List Str
def XRow.ok (K : PySem.W.Frag) (owns : List Str) (tys : List String) (r : XRow) : Bool :=
  exB K r.c r.b && (r.flds.all fun f => decide (PySem.W.findIn K (.ref (He.ga K r.c)) f = some none)) &&
    (match r.flds with
      | [] => decide (PySem.W.findIn K (.ref (He.ga K r.c)) "__init__" = some (some (.builtin r.b.ini)))
      | _ => decide (PySem.W.findIn K (.ref (He.ga K r.c)) "__init__" = some (some (.ref (He.ma K (He.ga K r.c) "__init__")))) && PySem.W.isFn K (.ref (He.ma K (He.ga K r.c) "__init__"))) &&
    (owns.all fun o => decide (PySem.W.kitOne K (.ref (He.ga K r.c)) (.ref (He.ga K o)) = some (r.anc.contains o))) &&
    tys.all fun n => decide (PySem.W.kitOne K (.ref (He.ga K r.c)) (.type n) = some (r.b.tyl.contains n))
def exAll (rows : List XRow) (owns : List Str) (tys : List String) (K : PySem.W.Frag) : Bool :=
  rows.all (XRow.ok K owns tys) && decide (PySem.W.specialIn K (.builtin "object.__class__") "__get__" = some (some (.builtin "getset_descriptor.__get__"))) && decide (PySem.W.takesIn K (.builtin "object.__class__") = some true)
def xrow (rows : List XRow) (c : Str) : Option XRow := rows.find? fun r => r.c == c
theorem xrow_mem {rows : List XRow} {c : Str} {r : XRow} (h : xrow rows c = some r) : r ∈ rows ∧ r.c = c :=
  ⟨List.mem_of_find?_eq_some h, by have := List.find?_some h; exact beq_iff_eq.mp this⟩
def xTab (rows : List XRow) (owns : List Str) (tys : List String) (c : Str) (t : D) : Option Bool := (xrow rows c).bind fun r => match t with
  | .cl o => if owns.contains o = true then some (r.anc.contains o) else none
  | .ty n => if tys.contains n = true then some (r.b.tyl.contains n) else none
  | _ => none
section
variable {K : PySem.W.Frag} {rows : List XRow} {owns : List Str} {tys : List String}
theorem XRow.parts {r : XRow} (h : r.ok K owns tys = true) : exB K r.c r.b = true ∧ (∀ f ∈ r.flds, PySem.W.findIn K (.ref (He.ga K r.c)) f = some none) ∧
    (r.flds = [] → PySem.W.findIn K (.ref (He.ga K r.c)) "__init__" = some (some (.builtin r.b.ini))) ∧
    (r.flds ≠ [] → PySem.W.findIn K (.ref (He.ga K r.c)) "__init__" = some (some (.ref (He.ma K (He.ga K r.c) "__init__"))) ∧ PySem.W.isFn K (.ref (He.ma K (He.ga K r.c) "__init__")) = true) ∧
    (∀ o ∈ owns, PySem.W.kitOne K (.ref (He.ga K r.c)) (.ref (He.ga K o)) = some (r.anc.contains o)) ∧ ∀ n ∈ tys, PySem.W.kitOne K (.ref (He.ga K r.c)) (.type n) = some (r.b.tyl.contains n) := by
  unfold XRow.ok at h
  rw [Bool.and_eq_true, Bool.and_eq_true, Bool.and_eq_true, Bool.and_eq_true] at h
  obtain ⟨⟨⟨⟨h1, h2⟩, h3⟩, h4⟩, h5⟩ := h
  refine ⟨h1, fun f hf => of_decide_eq_true (List.all_eq_true.mp h2 f hf), fun e => ?_, fun e => ?_, fun o ho => of_decide_eq_true (List.all_eq_true.mp h4 o ho), fun n hn => of_decide_eq_true (List.all_eq_true.mp h5 n hn)⟩
  · rw [e] at h3; exact of_decide_eq_true h3
  · cases e2 : r.flds with
    | nil => exact absurd e2 e
    | cons a b =>
      rw [e2] at h3
      obtain ⟨h6, h7⟩ := Bool.and_eq_true_iff.mp h3
      exact ⟨of_decide_eq_true h6, h7⟩
theorem exAll_row (h : exAll rows owns tys K = true) {r : XRow} (m : r ∈ rows) : r.ok K owns tys = true := by
  unfold exAll at h
  rw [Bool.and_eq_true, Bool.and_eq_true] at h
  exact List.all_eq_true.mp h.1.1 r m
theorem exAll_isC (h : exAll rows owns tys K = true) {r : XRow} (m : r ∈ rows) : IsC K (He.ga K r.c) := by
  have hr := (XRow.parts (exAll_row h m)).1
  have x := exB_xf hr
  unfold exAll at h
  rw [Bool.and_eq_true, Bool.and_eq_true] at h
  unfold exB at hr
  rw [Bool.and_eq_true, Bool.and_eq_true, Bool.and_eq_true, Bool.and_eq_true, Bool.and_eq_true, Bool.and_eq_true] at hr
  refine ⟨?_, x.ga, x.gg, x.exC, of_decide_eq_true hr.1.2, of_decide_eq_true h.1.2, of_decide_eq_true h.2, of_decide_eq_true hr.2⟩
  obtain ⟨cd, hc, _⟩ := PySem.W.any_some x.hdC
  rw [hc]; rfl
theorem exAll_tab (h : exAll rows owns tys K = true) : IsT K (xTab rows owns tys) := ⟨fun c t b e => by
  obtain ⟨r, hr, e2⟩ := Option.bind_eq_some_iff.mp e
  obtain ⟨m, rfl⟩ := xrow_mem hr
  obtain ⟨_, _, _, _, p5, p6⟩ := (XRow.parts (exAll_row h m))
  refine ⟨exAll_isC h m, ?_⟩
  cases t with
  | cl o =>
    have e3 : (if owns.contains o = true then some (r.anc.contains o) else none) = some b := e2
    split at e3
    · next hc => cases e3; exact ⟨_, rfl, p5 o (by simpa using hc)⟩
    · cases e3
  | ty n =>
    have e3 : (if tys.contains n = true then some (r.b.tyl.contains n) else none) = some b := e2
    split at e3
    · next hc => cases e3; exact ⟨_, rfl, p6 n (by simpa using hc)⟩
    · cases e3
  | _ => cases e2⟩
/-- e.f over all the classes of the table -/
def fAt (rows : List XRow) (f : Str) : D → Option D
  | .exc c fs => (xrow rows c).bind fun r => if r.flds.contains f = true then fs.lookup f else none
  | _ => none
end
theorem se_at {X : Cx} {e : Expr} {me : EM} {f : Str} {pos : Pos} {rows : List XRow} {owns : List Str} {tys : List String} (h : exAll rows owns tys X.K = true) (he : SE X e me) (hb : attributeBase e f X.env (eval e X.env) = eval e X.env := by rfl) : SE X (.Attribute e f pos) (mUn (fAt rows f) me) := by
  refine ⟨un_len he, fun ρ m o m' q B al σ H Q wd rs ha pins s I => ?_⟩
  have t := un_run (r := fun x H Q => ∃ a C dx gs v, x = .ref a ∧ XfC X.K C ∧ PySem.W.findIn X.K (.ref C) f = some none ∧ H a = some (exo a C (some dx)) ∧ H dx = some (exd dx gs) ∧ gs.lookup f = some v ∧ Q v H) (fun dx d hf B H x e hx Q k => ?_) he q wd rs ha
  · refine attr_of hb (thn (t pins s I) fun u s1 ⟨x, H1, I1, rx, a, C, dx, gs, v, ex, T, hno, ea, ed, l, q⟩ => ?_)
    subst ex
    obtain rfl : u = Value.ref a := rx
    obtain ⟨t1, ho⟩ := exo_at I1.hok ea
    obtain ⟨mA, hns, hr⟩ := exd_at I1.hok ed
    obtain ⟨od, hod, hl⟩ := lookIn_ns hns
    obtain ⟨u, hu, ru⟩ := RelO.some_of (v := v) (o := mA f) (by rw [← l]; exact hr f)
    have J : PySem.W.InstAt s1.heap a _ C (some od) := ⟨ho, rfl, rfl, hod⟩
    exact HandSPX.exc_get I1.kIn J T.ga T.gg T.exC (PySem.W.findObj_own T.hdC hno rfl (by rw [hl, hu])) (handed_of ru) ⟨v, H1, I1.tok _, ru, q⟩
  · cases dx with
    | exc c' fs =>
      obtain ⟨r, er, hf'⟩ := Option.bind_eq_some_iff.mp (show ((xrow rows c').bind fun r => if r.flds.contains f = true then fs.lookup f else none) = some d from hf)
      obtain ⟨m, rfl⟩ := xrow_mem er
      obtain ⟨p1, p2, _⟩ := (XRow.parts (exAll_row h m))
      split at hf'
      · next hc =>
        cases (hx : Rep X.K B x (.exc r.c fs)) with
        | exc0 _ => cases hf'
        | exc h1 h2 rf =>
          rcases repF_lookup (f := f) rf with ⟨z, _⟩ | ⟨d', v, z1, z2, z3⟩
          · rw [z] at hf'; cases hf'
          · rw [z1] at hf'; cases hf'
            exact ⟨_, _, _, _, v, rfl, exB_xf p1, p2 f (by simpa using hc), e _ _ h1, e _ _ h2, z2, k B v H (Gr.refl e) z3⟩
      · cases hf'
    | _ => cases hf
end Dm
/-! Dm, part 36: the walk's short words for own exceptions. -/
namespace Dm
open PySem PySem.Spec PyProof.Rows L2
open Evl (Ex)
variable [Lams]
/-- an own class, named -/
theorem se_gcl {X : Cx} {x : Str} {pos : Pos} (hg : Gl X x) (hm : X.mg x = some (.ref (He.ga X.K x))) (hd : (x == ("__debug__" : Str)) = false := by decide) : SE X (.Name x pos) (mC (.cl x)) :=
  .ofC (pe_glob (v := .ref (He.ga X.K x)) hg hm rfl hd) fun _ => .cl x
theorem exck_of {P : Program} {w : World} {K : PySem.W.Frag} {mg : Str → Option Value} {bs : Heap} {rows : List XRow} {owns : List Str} {tys : List String} (h : exAll rows owns tys K = true) {c : Str} {flds anc : List Str} {eb : EB} (m : rows.find? (fun r => r.c == c) = some ⟨c, eb, flds, anc⟩) (hne : flds ≠ []) {k n : Nat} {fd : FuncData} {ps ks : List Str} {gW : List W → List W → List W}
    (G : ∀ (T : OexG K (He.ga K c)) (_ : ∀ f ∈ flds, PySem.W.findIn K (.ref (He.ga K c)) f = some none), FnG P w K mg bs k (He.ma K (He.ga K c) "__init__") fd ps (spX (He.ga K c) flds)) (b : Bdg K fd ps (n + 1) ks gW) (hl : ps.length = flds.length + 1) (hn : n ≤ 1000) : ExcK P w K mg bs c k n ks flds gW := by
  obtain ⟨p1, p2, p3, p4, p5, p6⟩ := XRow.parts (exAll_row h (List.mem_of_find?_eq_some m))
  obtain ⟨q1, q2⟩ := p4 hne
  exact ⟨exB_oex p1, ⟨_, _, _, q1, by unfold PySem.W.isFn at q2; exact beq_iff_eq.mp q2, G (exB_oex p1) p2, b, hl⟩, hn⟩
section
variable {X : Cx} {N : List Str} {sc : Scope} {k : Nat} {fn : Str → Bool}
theorem Good.exc (g : Good X N sc k fn) {c : Str} {j n : Nat} {fls : List Str} {gW : List W → List W → List W} {e : Expr} {es : List Expr} {ma : AM} {p pos : Pos} (F : ExcK X.prog X.w X.K X.mg X.base c j n [] fls gW) (hj : Nat.ble (j + 1) k = true) (hg : sc.names.lookup c = some .globalImplicit) (hm : X.mg c = some (.ref (He.ga X.K c)))
    (ha : SA X (e :: es) ma) (h0 : noStar e = true := by rfl) (h1 : es.all noStar = true := by rfl) (hdb : (c == ("__debug__" : Str)) = false := by decide) : SE X (.Call (.Name c p) (e :: es) [] pos) (mExc c fls n 0 gW ma mNil) :=
  se_exc F (Nat.le_refl j) (g.room.mono (Nat.le_of_ble_eq_true hj)) g.gd (g.gl hg) hm ha h0 h1 hdb
theorem Good.excK0 (g : Good X N sc k fn) {c : Str} {j : Nat} {ks fls : List Str} {gW : List W → List W → List W} {kws : List Keyword} {mk : AM} {p pos : Pos} (F : ExcK X.prog X.w X.K X.mg X.base c j 0 ks fls gW) (hj : Nat.ble (j + 1) k = true) (hg : sc.names.lookup c = some .globalImplicit) (hm : X.mg c = some (.ref (He.ga X.K c)))
    (hw : SK X kws mk) (hall : (kws.map (·.arg)).all (·.isSome) = true := by rfl) (hks : (kws.map (·.arg)).filterMap id = ks := by rfl) (hdb : (c == ("__debug__" : Str)) = false := by decide) : SE X (.Call (.Name c p) [] kws pos) (mExc c fls 0 ks.length gW mNil mk) :=
  se_excK0 F (Nat.le_refl j) (g.room.mono (Nat.le_of_ble_eq_true hj)) g.gd (g.gl hg) hm hw hall hks hdb
theorem Good.exc0 (g : Good X N sc k fn) {c : Str} {p pos : Pos} {rows : List XRow} {owns : List Str} {tys : List String} (h : exAll rows owns tys X.K = true) (m : rows.any (fun r => r.c == c && r.flds.isEmpty) = true) (hg : sc.names.lookup c = some .globalImplicit) (hm : X.mg c = some (.ref (He.ga X.K c)))
    (hdb : (c == ("__debug__" : Str)) = false := by decide) : SE X (.Call (.Name c p) [] [] pos) (mExc0 c) := by
  obtain ⟨r, hr, h2⟩ := List.any_eq_true.mp m
  obtain ⟨h3, h4⟩ := Bool.and_eq_true_iff.mp h2
  have hc : r.c = c := beq_iff_eq.mp h3
  subst hc
  obtain ⟨p1, p2, p3, p4, p5, p6⟩ := XRow.parts (exAll_row h hr)
  have hi := p3 (List.isEmpty_iff.mp h4)
  have hb := p1
  unfold exB at p1
  rw [Bool.and_eq_true, Bool.and_eq_true, Bool.and_eq_true, Bool.and_eq_true, Bool.and_eq_true, Bool.and_eq_true] at p1
  obtain ⟨nm, qn, N, bs, bm, sn, sub, ab, col, dd, k0, k1, k2, k3, k5, e1, e2⟩ := oexCls_ok p1.1.1.1.1.1.1
  exact se_exc0 ⟨⟨_, _, _, _, nm, qn, N, bs, bm, sn, sub, ab, col, dd, k0, k1, k2, k3, k5, r.b.base, e1, e2, hi⟩, p1.1.1.1.2⟩ (g.gl hg) hm hdb
theorem st_int1 : True := trivial
end
end Dm
/-! Dm, part 37: == of plain data, of dicts of plain data. -/
namespace Dm
open PySem PySem.Spec PyProof.Rows L2
open Evl (Ex)
variable [Lams]
def isKD1 : D → Bool
  | .int _ => true
  | .str _ => true
  | _ => false
def sameK : D → D → Bool
  | .int i, .int j => decide (i = j)
  | .str x, .str y => decide (x = y)
  | _, _ => false
def lookD (es : List (D × D)) (k : D) : Option D := (es.find? fun p => sameK p.1 k).map (·.2)
def hitD (es' : List (D × D)) (p : D × D) : Bool := match lookD es' p.1 with
  | none => false
  | some u => PyData.eqv (py p.2) (py u)
def flatD (es : List (D × D)) : Bool := es.all fun p => isKD1 p.1 && plD 57 p.2
def eqvD : D → D → Option Bool := fun x y => if (plD 60 x && plD 60 y) = true then some (PyData.eqv (py x) (py y)) else match x, y with
  | .dct es, .dct es' => if (flatD es && flatD es') = true then some (es.length == es'.length && es.all (hitD es')) else none
  | _, _ => none
def gEq : D → D → Option D := fun x y => (eqvD x y).map .bl
theorem sameK_kD (j k : Key) : sameK (kD j) (kD k) = decide (j = k) := by
  cases j <;> cases k <;> simp [kD, sameK]
theorem lookD_rep {K : PySem.W.Frag} {B : Hp} (k : Key) : ∀ {kvs : List (Key × V)} {es : List (D × D)}, RepK K B kvs es → (valV kvs k = none ∧ lookD es (kD k) = none) ∨ ∃ v d, valV kvs k = some v ∧ lookD es (kD k) = some d ∧ Rep K B v d ∧ d ∈ es.map (·.2)
  | _, _, .nil => .inl ⟨rfl, rfl⟩
  | _, _, .cons (k := j) (v := v) (d := d) (r := r) (es := es) h t => by
    unfold valV lookD
    rw [List.find?_cons, List.find?_cons]
    show (_ ∧ (Option.map _ (match sameK (kD j) (kD k) with | true => _ | false => _)) = none) ∨ _
    rw [sameK_kD]
    by_cases e : j = k
    · subst e
      refine .inr ⟨v, d, ?_, ?_, h, List.mem_cons_self⟩ <;> simp [sameK_kD]
    · simp only [decide_eq_false e]
      rcases lookD_rep k t with ⟨h1, h2⟩ | ⟨v', d', h1, h2, h3, h4⟩
      · exact .inl ⟨h1, h2⟩
      · exact .inr ⟨v', d', h1, h2, h3, List.mem_cons_of_mem _ h4⟩
section
variable {X : Cx} {pins : List (Addr × Obj)} {σ : L2.St} {H : Hp} {s : Shared}
theorem pl_eqP (R : Rm X) (I : Inv X pins σ H s) {x y : V} {dx dy : D} {v u : Value} {A : Around} (hA : A.units ≤ X.A.units + 1) (hx : Rep X.K H x dx) (hy : Rep X.K H y dy) (px : plD 57 dx = true) (py' : plD 57 dy = true) (rx : RelV x v) (ry : RelV y u) : SeqAt.EqP X.prog X.w A s v u (PyData.eqv (py dx) (py dy)) := by
  obtain ⟨as, r1, _⟩ := hx.reads I R.sm (n := 57) (.inl px) rx
  obtain ⟨bs, r2, _⟩ := hy.reads I R.sm (n := 57) (.inl py') ry
  obtain ⟨p1, d1⟩ := plD_ok 57 dx px
  obtain ⟨p2, d2⟩ := plD_ok 57 dy py'
  have := R.un
  exact (SeqAt.eqAt_plain _ _ _ _ _ _ _ _ r1 r2 p1 p2 (by omega)).eqP
theorem hits_of (R : Rm X) (I : Inv X pins σ H s) {A : Around} (hA : A.units ≤ X.A.units + 1) {ls : List (Key × V)} {es' : List (D × D)} {vb : List (Key × Value)} (rb : KV ls vb) (hb : RepK X.K H ls es') (fb : flatD es' = true) :
    ∀ {ks : List (Key × V)} {es : List (D × D)} {va : List (Key × Value)}, RepK X.K H ks es → flatD es = true → KV ks va → PySem.W.KeqHitsP X.prog X.w A s vb va (es.all (hitD es'))
  | _, _, _, .nil, _, r => by cases r; exact .nil
  | _, _, _, .cons (k := k) (v := v) (d := d) (es := es) h t, f, r => by
    have f' : (isKD1 (kD k) && plD 57 d) = true ∧ flatD es = true := by
      unfold flatD at f
      rw [List.all_cons, Bool.and_eq_true] at f
      exact f
    have pd := (Bool.and_eq_true_iff.mp f'.1).2
    cases r with
    | @cons p q ps qs r1 r2 =>
      obtain ⟨key, vv⟩ := q
      obtain ⟨h1, h2⟩ := r1
      have h1' : k = key := h1
      subst h1'
      rw [List.all_cons]
      have ih := hits_of R I hA rb hb fb t f'.2 r2
      have rv := rb.val k
      rcases lookD_rep k hb with ⟨z1, z2⟩ | ⟨w, dw, z1, z2, z3, z4⟩
      · rw [z1] at rv
        have e0 : hitD es' (kD k, d) = false := by unfold hitD; rw [show lookD es' (kD k, d).1 = none from z2]
        rw [e0, Bool.false_and]
        exact .miss (RelO.none_of rv)
      · rw [z1] at rv
        obtain ⟨u, hu, ru⟩ := rv.some_of
        have e0 : hitD es' (kD k, d) = PyData.eqv (py d) (py dw) := by unfold hitD; rw [show lookD es' (kD k, d).1 = some dw from z2]
        rw [e0]
        have pw : plD 57 dw = true := by
          obtain ⟨p, hp, rfl⟩ := List.mem_map.mp z4
          exact (Bool.and_eq_true_iff.mp (List.all_eq_true.mp fb p hp)).2
        exact .hit hu (pl_eqP R I hA h z3 pd pw h2 ru) ih
theorem dct_rep {K : PySem.W.Frag} {x : V} {es : List (D × D)} (h : Rep K H x (.dct es)) (f : flatD es = true) : ∃ a kvs, x = .ref a ∧ Rd H a (.dK kvs) ∧ RepK K H kvs es := by
  cases h with
  | dct r1 r2 => exact ⟨_, _, rfl, r1, r2⟩
  | dctT r1 r2 => cases r2 <;> simp [flatD, isKD1] at f
end
theorem od_geq {X : Cx} (R : Rm X) : OpR X (compareOp .Eq) (rDD X gEq) := by
  rintro pins s σ H x y v u Q I rx ry ⟨B, dx, dy, d, e, hx, hy, hf, k⟩
  obtain ⟨b, hb, rfl⟩ := Option.map_eq_some_iff.mp hf
  unfold eqvD at hb
  split at hb
  · next hc =>
    cases hb
    obtain ⟨c1, c2⟩ := Bool.and_eq_true_iff.mp hc
    obtain ⟨⟨as, r1⟩, ⟨bs, r2⟩, p1, p2, hu⟩ := two_reads R I e hx hy rx ry c1 c2
    exact SeqAt.eq_plain r1 r2 p1 p2 hu ⟨.bl _, H, I, rfl, k B _ H (Gr.refl e) (.bl _)⟩
  · split at hb
    · rename_i es es' _
      split at hb
      · next hc =>
        cases hb
        obtain ⟨c1, c2⟩ := Bool.and_eq_true_iff.mp hc
        obtain ⟨a, kvs, rfl, ra, ka⟩ := dct_rep (hx.rep e) c1
        obtain ⟨a', kvs', rfl, rb, kb⟩ := dct_rep (hy.rep e) c2
        cases rx
        cases ry
        obtain ⟨_, ya, va, va1, da⟩ := dk_rd I.hok ra
        obtain ⟨_, yb, vb, vb1, db⟩ := dk_rd I.hok rb
        have hu := R.un
        refine PySem.W.rcP_dicts (knd := mixKind X.prog X.w) (r := es.all (hitD es')) ya yb da db (by omega) (fun _ => hits_of R I (Nat.le_refl _) vb1 kb c2 ka c1 va1) _ _ ⟨.bl _, H, I, ?_, k B _ H (Gr.refl e) (.bl _)⟩
        have e1 : va.length = es.length := by rw [← va1.length]; exact RepK.length ka
        have e2 : vb.length = es'.length := by rw [← vb1.length]; exact RepK.length kb
        rw [e1, e2]
        rfl
      · cases hb
    · cases hb
end Dm
namespace Dm
open PySem PySem.Spec PyProof.Rows L2
variable [Lams]
section
variable {x y : Int} {s t : Str} {p q : Bool}
@[simp] theorem gEq_int : gEq (.int x) (.int y) = some (.bl (x == y)) := rfl
@[simp] theorem gEq_str : gEq (.str s) (.str t) = some (.bl (s == t)) := rfl
@[simp] theorem gEq_bl : gEq (.bl p) (.bl q) = some (.bl (p == q)) := rfl
end
end Dm
/-! Dm, part 38: bodies step by step. -/
namespace Dm
open PySem PySem.Spec PyProof.Rows L2
variable [Lams]
section
variable {ρ ρ1 ρ2 : Slots} {m m1 m2 : Mem} {a b : SM} {w : W} {i : Nat} {me : EM} {mi : IM} {mg : GM} {ds : List D} {f : Fl} {d : D}
theorem seq_nx (h : a ρ m = some (.nx ρ1, m1)) : sSeq a b ρ m = b ρ1 m1 := by rw [sSeq_ap, h, sThen_nx]
theorem seq_rt (h : a ρ m = some (.rt w, m1)) : sSeq a b ρ m = some (.rt w, m1) := by rw [sSeq_ap, h, sThen_rt]
theorem set_nx (h : me ρ m = some (.ok w, m1)) : sSet i me ρ m = some (.nx (ρ.set i (some w)), m1) := by rw [sSet_ap, h]; rfl
theorem seq_set (h : me ρ m = some (.ok w, m1)) : sSeq (sSet i me) b ρ m = b (ρ.set i (some w)) m1 := seq_nx (set_nx h)
theorem ret_rt (h : me ρ m = some (.ok w, m1)) : sRet me ρ m = some (.rt w, m1) := by rw [sRet_ap, h]; rfl
theorem for_it (h : mi ρ m = some (.ok ds, m1)) : sFor mi mg b ρ m = forL mg b ds ρ m1 := by unfold sFor; rw [h]; rfl
theorem forL_nil : forL mg b [] ρ m = some (.nx ρ, m) := rfl
theorem forL_nx {r : List D} (h1 : mg (.dat d) ρ m = some (.nx ρ1, m1)) (h2 : b ρ1 m1 = some (.nx ρ2, m2)) : forL mg b (d :: r) ρ m = forL mg b r ρ2 m2 := by
  rw [forL, h1]; dsimp only; rw [h2]
theorem forL_rt {r : List D} (h1 : mg (.dat d) ρ m = some (.nx ρ1, m1)) (h2 : b ρ1 m1 = some (.rt w, m2)) : forL mg b (d :: r) ρ m = some (.rt w, m2) := by
  rw [forL, h1]; dsimp only; rw [h2]
theorem iAny_lst (h : me ρ m = some (.ok (.dat (.lst ds)), m1)) : iAny me ρ m = some (.ok ds, m1) := by
  unfold iAny
  rw [h]
  rfl
theorem fn_rt {N : List Str} {ws : List W} (h : b (ws.map some ++ List.replicate (N.length - ws.length) none) m = some (.rt w, m1)) : mFn N b ws m = some (.ok w, m1) := by rw [mFn_ap, h]; rfl
end
end Dm
/-! Dm, part 39: operators over own classes. -/
namespace Dm
open PySem PySem.Spec PyProof.Rows L2
open Evl (Ex)
variable [Lams]
def isO (c : Str) : Option D → Bool
  | some (.obj c' _) => decide (c' = c)
  | _ => false
def mapB (t : Bool → Bool) : Run W → Run W
  | some (.ok (.dat (.bl b)), m) => some (.ok (.dat (.bl (t b))), m)
  | some (.ex c fs, m) => some (.ex c fs, m)
  | _ => none
theorem mapB_inv {t : Bool → Bool} {x : Run W} {o : Out W} {m' : Mem} (q : mapB t x = some (o, m')) : (∃ b, x = some (.ok (.dat (.bl b)), m') ∧ o = .ok (.dat (.bl (t b)))) ∨ ∃ c fs, x = some (.ex c fs, m') ∧ o = .ex c fs := by
  unfold mapB at q
  split at q
  · cases q; exact .inl ⟨_, rfl, rfl⟩
  · cases q; exact .inr ⟨_, _, rfl, rfl⟩
  · cases q
theorem isO_vw {K : PySem.W.Frag} {B H : Hp} {al : Pl} {m : Mem} {n : Nat} {c : Str} {v : V} {w : W} (wd : Wd K B al m H) (r : RepW K B al n v w) (h : isO c (view m w) = true) : ∃ a dx gs, v = .ref a ∧ H a = some (.ins (He.ga K c) dx gs) := by
  unfold isO at h
  split at h
  · next c' fs e =>
    obtain rfl : c' = c := of_decide_eq_true h
    obtain ⟨a, dx, gs, rfl, h2, _⟩ := (wd.view r e).obj
    exact ⟨a, dx, gs, rfl, h2⟩
  · cases h
/-- a method found by the class, as OpenK's rules want it -/
structure OwnM (K : PySem.W.Frag) (c m0 : Str) : Prop where
  hs : PySem.W.findIn K (.ref (He.ga K c)) m0 = some (some (.ref (He.ma K (He.ga K c) m0)))
  hf : PySem.W.isFn K (.ref (He.ma K (He.ga K c) m0)) = true
section
variable {X : Cx}
/-- the callee runs at A -/
theorem code_A {A : Around} {k n : Nat} {f : Addr} {fd : FuncData} {ps ks : List Str} {mf : FM} {gW : List W → List W → List W} (F : FnG X.prog X.w X.K X.mg X.base k f fd ps (spM X.K ps.length mf)) (hr : Room k A) (hG : A.guards = some []) (hb : Bdg X.K fd ps n ks gW)
    {B B2 : Hp} {al al2 : Pl} {m m2 m' : Mem} {σ : L2.St} {H2 : Hp} {Q : VK} {o : Out W} (h : AnsE X B al m.length σ Q m' o) (l : m.length ≤ m2.length) (e2 : Ex B B2) (g2 : Agr m.length al al2) (wd2 : Wd X.K B2 al2 m2 H2) {vs zs : List V} {ws us : List W}
    (r1 : RepL X.K B2 al2 m2.length vs ws) (r2 : RepL X.K B2 al2 m2.length zs us) (hl1 : ws.length = n) (hl2 : us.length = ks.length) (q : cut m.length (mf (gW ws us) m2) = some (o, m')) (L : LenF mf)
    {pins : List (Addr × Obj)} {s : Shared} (I : Inv X pins σ H2 s) (en : Env0 X.prog X.w X.K X.mg X.base A X.stack s H2) {uv kv : List Value} (rv : Vals vs uv) (rk : Vals zs kv) : codeAny (model X.prog X.w) A (.call (.ref f) ⟨uv, ks.zip kv⟩) (fun r s' => (∃ u, r = .ok (.ret u) ∧ EP X pins σ Q u s') ∨ ∃ u, r = .error u ∧ X.xe u s' ∧ ((∃ w, o = .ok w) → False)) s := by
  obtain ⟨g, gV, hbn, hvl, hrel⟩ := hb.ex
  obtain ⟨m3, e3, hm⟩ := cut_eq q
  have lv : vs.length = n := r1.length.trans hl1
  have lz : zs.length = ks.length := r2.length.trans hl2
  have l3 := L _ _ _ _ e3
  have hlen : (gV vs zs).length = ps.length := hvl vs zs lv lz
  have run1 : ∀ {E : XK}, spM X.K ps.length mf (gV vs zs) H2 Q E → (∀ u s', L2.CX X.prog X.w X.stack H2 s E u s' → X.xe u s' ∧ ((∃ w, o = .ok w) → False)) → codeAny (model X.prog X.w) A (.call (.ref f) ⟨uv, ks.zip kv⟩) (fun r s' => (∃ u, r = .ok (.ret u) ∧ EP X pins σ Q u s') ∨ ∃ u, r = .error u ∧ X.xe u s' ∧ ((∃ w, o = .ok w) → False)) s := fun {E} hsp hx => by
    have rr := hbn.rel rv rk
    have bt := hbn.to s uv kv I.kIn (rv.length.symm.trans lv) (rk.length.symm.trans lz)
    have run := F.run A X.stack s H2 ⟨uv, ks.zip kv⟩ (g uv kv) (gV vs zs) Q E hG hr en bt rr hsp
    refine codeAny_mono run fun res s' done => ?_
    match res, done with
    | .error u, done => exact .inr ⟨u, rfl, hx u s' done⟩
    | .ok (.ret u), done => exact .inl ⟨u, rfl, I.after done⟩
    | .ok .next, done => exact done.elim
    | .ok .brk, done => exact done.elim
    | .ok .cont, done => exact done.elim
  cases o with
  | ok w =>
    refine run1 (E := E0) ⟨hlen, B2, al2, m2, gW ws us, _, m3, e3, wd2, hrel B2 al2 m2.length vs zs ws us lv lz r1 r2, fun B3 al3 v3 H3 e4 g4 wd4 r4 => ?_⟩ fun u s' hq => ?_
    · rcases hm with rfl | ⟨rfl, hw⟩
      · exact h B3 al3 v3 H3 (e2.trans e4) (g2.trans g4 l) wd4 r4
      · refine h B3 al3 v3 H3 (e2.trans e4) (g2.trans g4 l) (wd4.take _) ?_
        cases w with
        | dat d => exact r4
        | hdl k => exact ⟨r4.1, by rw [List.length_take]; have := hw k rfl; omega⟩
        | clo i ds => cases cut_plain q
    · exact ⟨passL pins σ H2 s u s' I hq, fun _ => passL (X := X.nox) pins σ H2 s u s' (I.wish _) hq⟩
  | ex c fs =>
    obtain ⟨Wx, tk, ha⟩ := h
    refine run1 (E := fun cls oa H' => Wx cls oa σ H') ⟨hlen, B2, al2, m2, gW ws us, _, m3, e3, wd2, hrel B2 al2 m2.length vs zs ws us lv lz r1 r2, fun B3 al3 cls oa H3 e4 g4 wd4 r4 => ?_⟩ fun u s' hq => ?_
    · rcases hm with rfl | ⟨rfl, hw⟩
      · exact ha B3 al3 cls oa H3 (e2.trans e4) (g2.trans g4 l) wd4 r4
      · exact ha B3 al3 cls oa H3 (e2.trans e4) (g2.trans g4 l) (wd4.take _) r4
    · exact ⟨tk u s' (XE.of_call I (fun cls oa H' z => z) hq), fun ⟨w, e⟩ => by cases e⟩
theorem call_A {A : Around} {k n : Nat} {f : Addr} {fd : FuncData} {ps ks : List Str} {mf : FM} {gW : List W → List W → List W} (F : FnG X.prog X.w X.K X.mg X.base k f fd ps (spM X.K ps.length mf)) (hr : Room k A) (hG : A.guards = some []) (hb : Bdg X.K fd ps n ks gW)
    {B B2 : Hp} {al al2 : Pl} {m m2 m' : Mem} {σ : L2.St} {H2 : Hp} {Q : VK} {o : Out W} (h : AnsE X B al m.length σ Q m' o) (l : m.length ≤ m2.length) (e2 : Ex B B2) (g2 : Agr m.length al al2) (wd2 : Wd X.K B2 al2 m2 H2) {vs zs : List V} {ws us : List W}
    (r1 : RepL X.K B2 al2 m2.length vs ws) (r2 : RepL X.K B2 al2 m2.length zs us) (hl1 : ws.length = n) (hl2 : us.length = ks.length) (q : cut m.length (mf (gW ws us) m2) = some (o, m')) (L : LenF mf)
    {pins : List (Addr × Obj)} {s : Shared} (I : Inv X pins σ H2 s) (en : Env0 X.prog X.w X.K X.mg X.base A X.stack s H2) {uv kv : List Value} (rv : Vals vs uv) (rk : Vals zs kv) : wpAny (model X.prog X.w) A (call (.ref f) uv (ks.zip kv)) (EP X pins σ Q) X.xe s := by
  refine wpAny_call (codeAny_mono (code_A F hr hG hb h l e2 g2 wd2 r1 r2 hl1 hl2 q L I en rv rk) fun r s' z => ?_)
  rcases z with ⟨u, rfl, z⟩ | ⟨u, rfl, z, _⟩
  · exact z
  · exact z
end
theorem cut_len {n : Nat} {mf : FM} {ws : List W} {m2 m' : Mem} {o : Out W} (L : LenF mf) (hn : n ≤ m2.length) (q : cut n (mf ws m2) = some (o, m')) : n ≤ m'.length := by
  obtain ⟨m3, e3, h3⟩ := cut_eq q
  have l3 := L _ _ _ _ e3
  rcases h3 with rfl | ⟨rfl, _⟩
  · omega
  · rw [List.length_take]; omega
/-! ### two operands; who asks is the first (swap: the second) -/
def mOwn2 (swap : Bool) (c : Str) (gd : Option D → Bool) (mf : FM) (post : Run W → Run W) (ma mb : EM) : EM := fun ρ m => bnd (ma ρ m) fun x m1 => bnd (mb ρ m1) fun y m2 => if (isO c (view m2 (if swap then y else x)) && gd (view m2 (if swap then x else y))) = true then post (cut m.length (mf (if swap then [y, x] else [x, y]) m2)) else none
section
variable {X : Cx} {a b : Expr} {ma mb : EM} {c m0 : Str} {j k : Nat} {ps : List Str} {mf : FM} {pos : Pos}
theorem own2_len {swap : Bool} {gd : Option D → Bool} {post : Run W → Run W} (hp : ∀ x o m', post x = some (o, m') → ∃ o', x = some (o', m')) (L : LenF mf) (ha : SE X a ma) (hb : SE X b mb) : ∀ ρ m o m', mOwn2 swap c gd mf post ma mb ρ m = some (o, m') → m.length ≤ m'.length := fun ρ m o m' q => by
  rcases bnd_cases q with ⟨x, m1, e1, q1⟩ | ⟨cc, fs, e1, rfl⟩
  · have l1 := ha.len _ _ _ _ e1
    rcases bnd_cases q1 with ⟨y, m2, e2, q2⟩ | ⟨cc, fs, e2, rfl⟩
    · have l2 := hb.len _ _ _ _ e2
      cases swap <;>
      · simp only [Bool.false_eq_true, if_false, if_true] at q2
        split at q2
        · obtain ⟨o', e3⟩ := hp _ _ _ q2
          exact cut_len L (by omega) e3
        · cases q2
    · exact Nat.le_trans l1 (hb.len _ _ _ _ e2)
  · exact ha.len _ _ _ _ e1
theorem mapB_some {t : Bool → Bool} : ∀ x o m', mapB t x = some (o, m') → ∃ o', x = some (o', m') := fun x o m' q => by
  rcases mapB_inv q with ⟨b, rfl, _⟩ | ⟨c, fs, rfl, _⟩ <;> exact ⟨_, rfl⟩
/-- what the operation's rule asks: the method's call -/
theorem own2_run {swap : Bool} {gd : Option D → Bool} {post : Run W → Run W} {A : Around} (F : DefA X.prog X.w X.K X.mg X.base (He.ma X.K (He.ga X.K c) m0) j ps mf 2 [] (fun ws _ => ws)) (hr : Room j A) (hG : A.guards = some []) (hA : ∀ {pins : List (Addr × Obj)} {σ : L2.St} {H : Hp} {s : Shared}, Inv X pins σ H s → Env0 X.prog X.w X.K X.mg X.base A X.stack s H) (ha : SE X a ma) (hb : SE X b mb)
    {ρ : Slots} {m m' : Mem} {o : Out W} (q : mOwn2 swap c gd mf post ma mb ρ m = some (o, m')) {B : Hp} {al : Pl} {σ : L2.St} {H : Hp} {Q : VK} (wd : Wd X.K B al m H) (rs : RepS X.K B al m.length σ ρ) (h : AnsE X B al m.length σ Q m' o)
    (Qi : VK) (hpost : ∀ x, post x = some (o, m') → ∃ oi, x = some (oi, m') ∧ AnsE X B al m.length σ Qi m' oi) :
    wE X a σ H fun x H1 => wE X b σ H1 fun y H2 => ∃ p dx gs, (if swap then y else x) = .ref p ∧ H2 p = some (.ins (He.ga X.K c) dx gs) ∧ (gd none = true ∨ ∃ B' d, Ex B' H2 ∧ Vw X.K B' H2 (if swap then x else y) d ∧ gd (some d) = true) ∧ ∀ pins s us, Inv X pins σ H2 s → Vals (if swap then [y, x] else [x, y]) us → wpAny (model X.prog X.w) A (call (.ref (He.ma X.K (He.ga X.K c) m0)) us) (EP X pins σ Qi) X.xe s := by
  obtain ⟨fd, G, bd⟩ := F.ex
  refine ha.seq q wd rs h.res fun w1 m1 q1 l1 B1 al1 v1 H1 x1 g1 wd1 r1 => ?_
  refine hb.seq q1 wd1 (rs.mono x1 g1 l1) (fun c fs z => (h.res c fs z).mono x1 g1 l1) fun w2 m2 q2 l2 B2 al2 v2 H2 x2 g2 wd2 r2 => ?_
  cases swap with
  | false =>
    simp only [Bool.false_eq_true, if_false] at q2
    split at q2
    · next ho =>
      obtain ⟨oi, e3, hi⟩ := hpost _ q2
      obtain ⟨ho, hg⟩ := Bool.and_eq_true_iff.mp ho
      obtain ⟨p, dx, gs, e4, e5⟩ := isO_vw wd2 (r1.mono x2 g2 l2) ho
      have side : gd none = true ∨ ∃ B' d, Ex B' H2 ∧ Vw X.K B' H2 v2 d ∧ gd (some d) = true := by
        cases hv : view m2 w2 with
        | none => rw [hv] at hg; exact .inl hg
        | some d => rw [hv] at hg; exact .inr ⟨B2, d, wd2.ext, wd2.view r2 hv, hg⟩
      refine ⟨p, dx, gs, e4, e5, side, fun pins s us I ru => ?_⟩
      exact call_A (A := A) (ks := []) (kv := []) (zs := []) (us := []) (vs := [v1, v2]) (ws := [w1, w2]) G hr hG bd hi (Nat.le_trans l1 l2) (x1.trans x2) (g1.trans g2 l1) wd2 ⟨r1.mono x2 g2 l2, r2, trivial⟩ trivial rfl rfl e3 F.len I (hA I) ru .nil
    · cases q2
  | true =>
    simp only [if_true] at q2
    split at q2
    · next ho =>
      obtain ⟨oi, e3, hi⟩ := hpost _ q2
      obtain ⟨ho, hg⟩ := Bool.and_eq_true_iff.mp ho
      obtain ⟨p, dx, gs, e4, e5⟩ := isO_vw wd2 r2 ho
      have side : gd none = true ∨ ∃ B' d, Ex B' H2 ∧ Vw X.K B' H2 v1 d ∧ gd (some d) = true := by
        cases hv : view m2 w1 with
        | none => rw [hv] at hg; exact .inl hg
        | some d => rw [hv] at hg; exact .inr ⟨B2, d, wd2.ext, wd2.view (r1.mono x2 g2 l2) hv, hg⟩
      refine ⟨p, dx, gs, e4, e5, side, fun pins s us I ru => ?_⟩
      exact call_A (A := A) (ks := []) (kv := []) (zs := []) (us := []) (vs := [v2, v1]) (ws := [w2, w1]) G hr hG bd hi (Nat.le_trans l1 l2) (x1.trans x2) (g1.trans g2 l1) wd2 ⟨r2, r1.mono x2 g2 l2, trivial⟩ trivial rfl rfl e3 F.len I (hA I) ru .nil
    · cases q2
/-- o[i] by an own __getitem__ -/
theorem se_getO (M : OwnM X.K c "__getitem__") (hfn : PySem.W.fnIn X.K (He.ma X.K (He.ga X.K c) "__getitem__") = true) (F : DefA X.prog X.w X.K X.mg X.base (He.ma X.K (He.ga X.K c) "__getitem__") j ps mf 2 [] (fun ws _ => ws)) (hr : Room (j + 1) X.A) (hG : X.A.guards = some []) (ha : SE X a ma) (hb : SE X b mb)
    (hsl : ∀ x i : Value, subscripted b true x i = runValue (.builtin "lifetime.subscript" ⟨[x, i], []⟩) := by intro x i; with_unfolding_all rfl) : SE X (.Subscript a b pos) (mOwn2 false c (fun _ => true) mf id ma mb) := by
  refine ⟨own2_len (fun x o m' q => ⟨o, q⟩) F.len ha hb, fun ρ m o m' q B al σ H Q wd rs h pins s I => ?_⟩
  have t := own2_run (A := X.A.in1) F hr.in1 hG (fun I => I.env0.in1) ha hb q wd rs h Q fun x e => ⟨o, e, h⟩
  refine Subscript_ (binT pe_w pe_w I t fun v u s2 x y H2 I2 rx ry ⟨p, dx, gs, ex, ep, _, q2⟩ => ?_)
  subst ex
  obtain rfl : v = Value.ref p := rx
  obtain ⟨mA, O, _⟩ := ins_get I2.hok ep
  obtain ⟨od, J, _⟩ := O.look
  obtain ⟨mF, hF⟩ := I2.fr
  exact PySem.W.sub_K hF I2.ok.mod.kin J M.hs hfn M.hf (q2 pins s2 [.ref p, u] I2 (.cons rfl (.cons ry .nil))) (hsl _ _)
end
end Dm
/-! Dm, part 40: in, ==, !=, +, ~, len, repr, properties over own classes. -/
namespace Dm
open PySem PySem.Spec PyProof.Rows L2
open Evl (Ex)
variable [Lams]
/-- what such an operation wants of the class -/
def kindsT : List String := ["NoneType", "bool", "int", "str", "tuple", "list", "dict"]
def ownB (owns : List Str) (K : PySem.W.Frag) : Bool := owns.all fun c => PySem.W.noSeq K (He.ga K c) && PySem.W.selfFirst K (He.ga K c) && decide (PySem.W.findIn K (.ref (He.ga K c)) "__ne__" = some (some (.builtin "object.__ne__"))) &&
  decide (PySem.W.mroIn K (He.ga K c) (.type "object") = some true) && PySem.W.keepIn K (.ref (He.ga K c)) &&
  (kindsT.all fun t => PySem.W.notFirst K (He.ga K c) (.type t) && decide (PySem.W.kitOne K (.type t) (.ref (He.ga K c)) = some false)) &&
  owns.all fun c' => PySem.W.notFirst K (He.ga K c) (.ref (He.ga K c')) && decide (PySem.W.kitOne K (.ref (He.ga K c')) (.ref (He.ga K c)) = some (decide (c' = c)))
theorem ownB_parts {owns : List Str} {K : PySem.W.Frag} (h : ownB owns K = true) {c : Str} (hc : c ∈ owns) : PySem.W.noSeq K (He.ga K c) = true ∧ PySem.W.selfFirst K (He.ga K c) = true ∧ PySem.W.findIn K (.ref (He.ga K c)) "__ne__" = some (some (.builtin "object.__ne__")) ∧
    PySem.W.mroIn K (He.ga K c) (.type "object") = some true ∧ PySem.W.keepIn K (.ref (He.ga K c)) = true ∧ (∀ t ∈ kindsT, PySem.W.notFirst K (He.ga K c) (.type t) = true ∧ PySem.W.kitOne K (.type t) (.ref (He.ga K c)) = some false) ∧
    ∀ c' ∈ owns, PySem.W.notFirst K (He.ga K c) (.ref (He.ga K c')) = true ∧ PySem.W.kitOne K (.ref (He.ga K c')) (.ref (He.ga K c)) = some (decide (c' = c)) := by
  have h1 := List.all_eq_true.mp h c hc
  rw [Bool.and_eq_true, Bool.and_eq_true, Bool.and_eq_true, Bool.and_eq_true, Bool.and_eq_true, Bool.and_eq_true] at h1
  obtain ⟨⟨⟨⟨⟨⟨a1, a2⟩, a3⟩, a4⟩, a5⟩, a6⟩, a7⟩ := h1
  refine ⟨a1, a2, of_decide_eq_true a3, of_decide_eq_true a4, a5, fun t ht => ?_, fun c' hc' => ?_⟩
  · obtain ⟨z1, z2⟩ := Bool.and_eq_true_iff.mp (List.all_eq_true.mp a6 t ht)
    exact ⟨z1, of_decide_eq_true z2⟩
  · obtain ⟨z1, z2⟩ := Bool.and_eq_true_iff.mp (List.all_eq_true.mp a7 c' hc')
    exact ⟨z1, of_decide_eq_true z2⟩
/-- the type of data, own classes too -/
def tyV (K : PySem.W.Frag) (owns : List Str) : D → Option Value
  | .obj c _ => if owns.contains c = true then some (.ref (He.ga K c)) else none
  | d => (tyN d).map .type
def tyO (owns : List Str) : Option D → Bool
  | some (.obj c _) => owns.contains c
  | some d => (tyN d).isSome
  | none => false
section
variable {X : Cx} {pins : List (Addr × Obj)} {σ : L2.St} {H : Hp} {s : Shared}
theorem looks_ty {M : Model} (I : Inv X pins σ H s) {x : V} {d : D} {u : Value} {t : String} (rx : RelV x u) (r : Rep X.K H x d) (ht : tyN d = some t) : PySem.W.Looks M s.heap (typeOf u) (.type t) := by
  cases r with
  | non => cases ht; cases rx; exact .now
  | bl b => cases ht; cases rx; exact .now
  | int i => cases ht; obtain ⟨_, rfl⟩ := rx; exact .now
  | str z => cases ht; obtain ⟨_, rfl⟩ := rx; exact .now
  | tup q _ =>
    cases ht; cases rx
    obtain ⟨its, _, ⟨o, ho, hc, _⟩, _⟩ := I.tuple q
    exact hc ▸ (PySem.W.Looks.ld ho).andThen .now
  | lst q _ =>
    cases ht; cases rx
    obtain ⟨its, _, ⟨o, n, ho, hc, _⟩, _⟩ := I.list q
    exact hc ▸ (PySem.W.Looks.ld ho).andThen .now
  | dct q _ =>
    cases ht; cases rx
    obtain ⟨_, _, vs, _, o, es, ep, h1, h2, _⟩ := dk_rd I.hok q
    exact h2.1 ▸ (PySem.W.Looks.ld h1).andThen .now
  | dctT q _ =>
    cases ht; cases rx
    obtain ⟨_, _, vs, _, o, es, ep, h1, h2, _⟩ := dt_rd I.hok q
    exact h2.1 ▸ (PySem.W.Looks.ld h1).andThen .now
  | _ => cases ht
theorem looks_own {M : Model} (I : Inv X pins σ H s) {a C dx : Addr} {gs : List (Str × V)} (h : H a = some (.ins C dx gs)) : PySem.W.Looks M s.heap (typeOf (.ref a)) (.ref C) := by
  obtain ⟨mA, O, _⟩ := ins_get I.hok h
  obtain ⟨od, J, _⟩ := O.look
  exact J.type
/-- a value seen: its type is none that asks first -/
theorem looks_any {M : Model} {owns : List Str} (T : ownB owns X.K = true) {c : Str} (hc : c ∈ owns) (I : Inv X pins σ H s) {B : Hp} {x : V} {d : D} {u : Value} (rx : RelV x u) (e : Ex B H) (r : Vw X.K B H x d) (ht : tyO owns (some d) = true) :
    ∃ tb, PySem.W.Looks M s.heap (typeOf u) tb ∧ PySem.W.notFirst X.K (He.ga X.K c) tb = true := by
  obtain ⟨_, _, _, _, _, p6, p7⟩ := ownB_parts T hc
  cases d with
  | obj c' fs =>
    obtain ⟨a, dx, gs, rfl, h2, _⟩ := r.obj
    cases rx
    exact ⟨_, looks_own I h2, (p7 c' (by simpa [tyO] using ht)).1⟩
  | non => exact ⟨_, looks_ty I rx (r.rep e) rfl, (p6 _ (by decide)).1⟩
  | bl => exact ⟨_, looks_ty I rx (r.rep e) rfl, (p6 _ (by decide)).1⟩
  | int => exact ⟨_, looks_ty I rx (r.rep e) rfl, (p6 _ (by decide)).1⟩
  | str => exact ⟨_, looks_ty I rx (r.rep e) rfl, (p6 _ (by decide)).1⟩
  | tup => exact ⟨_, looks_ty I rx (r.rep e) rfl, (p6 _ (by decide)).1⟩
  | lst => exact ⟨_, looks_ty I rx (r.rep e) rfl, (p6 _ (by decide)).1⟩
  | dct => exact ⟨_, looks_ty I rx (r.rep e) rfl, (p6 _ (by decide)).1⟩
  | _ => cases ht
theorem mapB_post {t : Bool → Bool} {B : Hp} {al : Pl} {n : Nat} {Q : VK} {x : Run W} {o : Out W} {m' : Mem} (q : mapB t x = some (o, m')) (h : AnsE X B al n σ Q m' o) : ∃ oi, x = some (oi, m') ∧ AnsE X B al n σ (fun v H' => ∃ bb, v = .bl bb ∧ Q (.bl (t bb)) H') m' oi := by
  rcases mapB_inv q with ⟨b, e, rfl⟩ | ⟨c, fs, e, rfl⟩
  · refine ⟨_, e, fun B' al' v H' e g wd r => ?_⟩
    cases (show Rep X.K B' v (.bl b) from r)
    exact ⟨b, rfl, h B' al' (.bl (t b)) H' e g wd (.bl _)⟩
  · exact ⟨_, e, h⟩
end
section
variable {X : Cx} {a b : Expr} {ma mb : EM} {c : Str} {j k : Nat} {ps : List Str} {mf : FM} {pos : Pos}
/-- x in o -/
theorem se_inO (M : OwnM X.K c "__contains__") (F : DefA X.prog X.w X.K X.mg X.base (He.ma X.K (He.ga X.K c) "__contains__") j ps mf 2 [] (fun ws _ => ws)) (hr : Room j X.A) (hG : X.A.guards = some []) (ha : SE X a ma) (hb : SE X b mb)
    (hm : behindInMarks .In b = false) : SE X (.Compare a [.In] [b] pos) (mOwn2 true c (fun _ => true) mf (mapB id) ma mb) := by
  refine ⟨own2_len mapB_some F.len ha hb, fun ρ m o m' q B al σ H Q wd rs h pins s I => ?_⟩
  have t := own2_run (A := X.A) F hr hG (fun I => I.env0) ha hb q wd rs h _ fun x e => mapB_post e h
  refine wpAny_Compare1 (binT pe_w pe_w I t fun v u s2 x y H2 I2 rx ry ⟨p, dx, gs, ex, ep, _, q2⟩ => ?_) hm
  simp only [if_true] at ex q2
  subst ex
  obtain rfl : u = Value.ref p := ry
  obtain ⟨mA, O, _⟩ := ins_get I2.hok ep
  obtain ⟨od, J, _⟩ := O.look
  obtain ⟨mF, hF⟩ := I2.fr
  refine PySem.W.in_K hF I2.ok.mod.kin J M.hs M.hf (thn (q2 pins s2 [.ref p, v] I2 (.cons rfl (.cons rx .nil))) fun r s3 ⟨z, H3, I3, rz, bb, ez, qz⟩ => ?_)
  subst ez
  cases rz
  exact wpAny_truthy_bool ⟨.bl bb, H3, I3, rfl, qz⟩
theorem se_notInO (M : OwnM X.K c "__contains__") (F : DefA X.prog X.w X.K X.mg X.base (He.ma X.K (He.ga X.K c) "__contains__") j ps mf 2 [] (fun ws _ => ws)) (hr : Room j X.A) (hG : X.A.guards = some []) (ha : SE X a ma) (hb : SE X b mb)
    (hm : behindInMarks .NotIn b = false) : SE X (.Compare a [.NotIn] [b] pos) (mOwn2 true c (fun _ => true) mf (mapB not) ma mb) := by
  refine ⟨own2_len mapB_some F.len ha hb, fun ρ m o m' q B al σ H Q wd rs h pins s I => ?_⟩
  have t := own2_run (A := X.A) F hr hG (fun I => I.env0) ha hb q wd rs h _ fun x e => mapB_post e h
  refine wpAny_Compare1 (binT pe_w pe_w I t fun v u s2 x y H2 I2 rx ry ⟨p, dx, gs, ex, ep, _, q2⟩ => ?_) hm
  simp only [if_true] at ex q2
  subst ex
  obtain rfl : u = Value.ref p := ry
  obtain ⟨mA, O, _⟩ := ins_get I2.hok ep
  obtain ⟨od, J, _⟩ := O.look
  obtain ⟨mF, hF⟩ := I2.fr
  refine PySem.W.notIn_K hF I2.ok.mod.kin J M.hs M.hf (thn (q2 pins s2 [.ref p, v] I2 (.cons rfl (.cons rx .nil))) fun r s3 ⟨z, H3, I3, rz, bb, ez, qz⟩ => ?_)
  subst ez
  cases rz
  exact wpAny_truthy_bool ⟨.bl (!bb), H3, I3, rfl, qz⟩
end
end Dm
/-! Dm, part 41: ==, !=, +, ~, len, repr of own classes; properties. -/
namespace Dm
open PySem PySem.Spec PyProof.Rows L2
open Evl (Ex)
variable [Lams]
def sameO (c : Str) : Option D → Bool := isO c
section
variable {X : Cx} {a b : Expr} {ma mb : EM} {c m0 : Str} {j k : Nat} {ps : List Str} {mf : FM} {pos : Pos}
theorem un_lt (g : Room j X.A) : X.A.units < cLine := g.units0
theorem se_eqO {owns : List Str} (T : ownB owns X.K = true) (hc : c ∈ owns) (M : OwnM X.K c "__eq__") (F : DefA X.prog X.w X.K X.mg X.base (He.ma X.K (He.ga X.K c) "__eq__") j ps mf 2 [] (fun ws _ => ws)) (hr : Room j X.A) (hG : X.A.guards = some []) (ha : SE X a ma) (hb : SE X b mb)
    (hm : behindInMarks .Eq b = false) : SE X (.Compare a [.Eq] [b] pos) (mOwn2 false c (tyO owns) mf (mapB id) ma mb) := by
  refine ⟨own2_len mapB_some F.len ha hb, fun ρ m o m' q B al σ H Q wd rs h pins s I => ?_⟩
  have t := own2_run (A := X.A) F hr hG (fun I => I.env0) ha hb q wd rs h _ fun x e => mapB_post e h
  refine wpAny_Compare1 (binT pe_w pe_w I t fun v u s2 x y H2 I2 rx ry ⟨p, dx, gs, ex, ep, sd, q2⟩ => ?_) hm
  simp only [Bool.false_eq_true, if_false] at ex q2 sd
  subst ex
  obtain rfl : v = Value.ref p := rx
  rcases sd with sd | ⟨B', d, eB, vd, hd⟩
  · cases sd
  obtain ⟨tb, lt, nf⟩ := looks_any (M := model X.prog X.w) T hc I2 ry eB vd hd
  obtain ⟨mA, O, _⟩ := ins_get I2.hok ep
  obtain ⟨od, J, _⟩ := O.look
  obtain ⟨mF, hF⟩ := I2.fr
  refine PySem.W.cmp_K (op := .Eq) (tb := tb) hr.units0 hF I2.ok.mod.kin J lt nf M.hs M.hf (thn (q2 pins s2 [.ref p, u] I2 (.cons rfl (.cons ry .nil))) fun r s3 ⟨z, H3, I3, rz, bb, ez, qz⟩ => ?_)
  subst ez
  cases rz
  exact ⟨.bl bb, H3, I3, rfl, qz⟩
/-- a + b, a | b, .. of two of one class -/
theorem se_binO {op : Operator} (hs : PySem.W.selfFirst X.K (He.ga X.K c) = true) (M : OwnM X.K c (PySem.dunder op.info.2)) (F : DefA X.prog X.w X.K X.mg X.base (He.ma X.K (He.ga X.K c) (PySem.dunder op.info.2)) j ps mf 2 [] (fun ws _ => ws)) (hr : Room j X.A) (hG : X.A.guards = some []) (ha : SE X a ma) (hb : SE X b mb) :
    SE X (.BinOp a op b pos) (mOwn2 false c (isO c) mf id ma mb) := by
  refine ⟨own2_len (fun x o m' q => ⟨o, q⟩) F.len ha hb, fun ρ m o m' q B al σ H Q wd rs h pins s I => ?_⟩
  have t := own2_run (A := X.A) F hr hG (fun I => I.env0) ha hb q wd rs h Q fun x e => ⟨o, e, h⟩
  refine wpAny_BinOp (binT pe_w pe_w I t fun v u s2 x y H2 I2 rx ry ⟨p, dx, gs, ex, ep, sd, q2⟩ => ?_)
  simp only [Bool.false_eq_true, if_false] at ex q2 sd
  subst ex
  obtain rfl : v = Value.ref p := rx
  rcases sd with sd | ⟨B', d, eB, vd, hd⟩
  · cases sd
  have e2 : ∃ p2 dx2 gs2, y = .ref p2 ∧ H2 p2 = some (.ins (He.ga X.K c) dx2 gs2) := by
    cases d with
    | obj c' fs =>
      have e3 : decide (c' = c) = true := hd
      obtain rfl : c' = c := of_decide_eq_true e3
      obtain ⟨p2, dx2, gs2, rfl, h2, _⟩ := vd.obj
      exact ⟨p2, dx2, gs2, rfl, h2⟩
    | _ => cases hd
  obtain ⟨p2, dx2, gs2, rfl, h2⟩ := e2
  obtain rfl : u = Value.ref p2 := ry
  obtain ⟨mA, O, _⟩ := ins_get I2.hok ep
  obtain ⟨od, J, _⟩ := O.look
  obtain ⟨mF, hF⟩ := I2.fr
  refine PySem.W.binop_K hF I2.ok.mod.kin J (looks_own I2 h2) hs M.hs M.hf (thn (q2 pins s2 [.ref p, .ref p2] I2 (.cons rfl (.cons rfl .nil))) fun r s3 ⟨z, H3, I3, rz, qz⟩ => ?_)
  have nn : r ≠ .notImplemented := by
    rintro rfl
    cases z <;> first | (obtain ⟨_, hz⟩ := rz; cases hz) | (have hz : _ = _ := rz; cases hz)
  show PySem.W.CmpBack (EP X pins σ Q) r s3
  unfold PySem.W.CmpBack
  split
  · exact nn rfl
  · exact ⟨z, H3, I3, rz, qz⟩
/-! ### one operand -/
def mOwn1 (c : Str) (mf : FM) (post : Run W → Run W) (ma : EM) : EM := fun ρ m => bnd (ma ρ m) fun x m1 => if isO c (view m1 x) = true then post (cut m.length (mf [x] m1)) else none
theorem own1_len {post : Run W → Run W} (hp : ∀ x o m', post x = some (o, m') → ∃ o', x = some (o', m')) (L : LenF mf) (ha : SE X a ma) : ∀ ρ m o m', mOwn1 c mf post ma ρ m = some (o, m') → m.length ≤ m'.length := fun ρ m o m' q => by
  rcases bnd_cases q with ⟨x, m1, e1, q1⟩ | ⟨cc, fs, e1, rfl⟩
  · have l1 := ha.len _ _ _ _ e1
    split at q1
    · obtain ⟨o', e3⟩ := hp _ _ _ q1
      exact cut_len L l1 e3
    · cases q1
  · exact ha.len _ _ _ _ e1
theorem own1_run {post : Run W → Run W} {A : Around} (F : DefA X.prog X.w X.K X.mg X.base (He.ma X.K (He.ga X.K c) m0) j ps mf 1 [] (fun ws _ => ws)) (hr : Room j A) (hG : A.guards = some []) (hA : ∀ {pins : List (Addr × Obj)} {σ : L2.St} {H : Hp} {s : Shared}, Inv X pins σ H s → Env0 X.prog X.w X.K X.mg X.base A X.stack s H) (ha : SE X a ma)
    {ρ : Slots} {m m' : Mem} {o : Out W} (q : mOwn1 c mf post ma ρ m = some (o, m')) {B : Hp} {al : Pl} {σ : L2.St} {H : Hp} {Q : VK} (wd : Wd X.K B al m H) (rs : RepS X.K B al m.length σ ρ) (h : AnsE X B al m.length σ Q m' o)
    (Qi : VK) (hpost : ∀ x, post x = some (o, m') → ∃ oi, x = some (oi, m') ∧ AnsE X B al m.length σ Qi m' oi) :
    wE X a σ H fun x H1 => ∃ p dx gs, x = .ref p ∧ H1 p = some (.ins (He.ga X.K c) dx gs) ∧ ∀ pins s, Inv X pins σ H1 s → wpAny (model X.prog X.w) A (call (.ref (He.ma X.K (He.ga X.K c) m0)) [.ref p]) (EP X pins σ Qi) X.xe s := by
  obtain ⟨fd, G, bd⟩ := F.ex
  refine ha.seq q wd rs h.res fun w1 m1 q1 l1 B1 al1 v1 H1 x1 g1 wd1 r1 => ?_
  split at q1
  · next ho =>
    obtain ⟨oi, e3, hi⟩ := hpost _ q1
    obtain ⟨p, dx, gs, rfl, e5⟩ := isO_vw wd1 r1 ho
    exact ⟨p, dx, gs, rfl, e5, fun pins s I => call_A (A := A) (ks := []) (kv := []) (zs := []) (us := []) (vs := [.ref p]) (ws := [w1]) G hr hG bd hi l1 x1 g1 wd1 ⟨r1, trivial⟩ trivial rfl rfl e3 F.len I (hA I) (.cons rfl .nil) .nil⟩
  · cases q1
theorem se_invO (M : OwnM X.K c "__invert__") (F : DefA X.prog X.w X.K X.mg X.base (He.ma X.K (He.ga X.K c) "__invert__") j ps mf 1 [] (fun ws _ => ws)) (hr : Room j X.A) (hG : X.A.guards = some []) (ha : SE X a ma) : SE X (.UnaryOp .Invert a pos) (mOwn1 c mf id ma) := by
  refine ⟨own1_len (fun x o m' q => ⟨o, q⟩) F.len ha, fun ρ m o m' q B al σ H Q wd rs h pins s I => ?_⟩
  have t := own1_run (A := X.A) F hr hG (fun I => I.env0) ha q wd rs h Q fun x e => ⟨o, e, h⟩
  refine UnaryOp_ (thn (t pins s I) fun v s1 ⟨x, H1, I1, rx, p, dx, gs, ex, ep, q1⟩ => ?_)
  subst ex
  obtain rfl : v = Value.ref p := rx
  obtain ⟨mA, O, _⟩ := ins_get I1.hok ep
  obtain ⟨od, J, _⟩ := O.look
  obtain ⟨mF, hF⟩ := I1.fr
  exact PySem.W.ksp_inv hF I1.ok.mod.kin J M.hs M.hf (q1 pins s1 I1)
/-- len(o): its __len__ gives an int in range -/
def mapLen : Run W → Run W
  | some (.ok (.dat (.int i)), m) => if 0 ≤ i ∧ i < 2 ^ 63 then some (.ok (.dat (.int i)), m) else none
  | some (.ex c fs, m) => some (.ex c fs, m)
  | _ => none
theorem mapLen_inv {x : Run W} {o : Out W} {m' : Mem} (q : mapLen x = some (o, m')) : x = some (o, m') ∧ ((∃ i, o = .ok (.dat (.int i)) ∧ 0 ≤ i ∧ i < 2 ^ 63) ∨ ∃ c fs, o = .ex c fs) := by
  unfold mapLen at q
  split at q
  · split at q
    · next h => cases q; exact ⟨rfl, .inl ⟨_, rfl, h.1, h.2⟩⟩
    · cases q
  · cases q; exact ⟨rfl, .inr ⟨_, _, rfl⟩⟩
  · cases q
def mapStr : Run W → Run W
  | some (.ok (.dat (.str i)), m) => some (.ok (.dat (.str i)), m)
  | some (.ex c fs, m) => some (.ex c fs, m)
  | _ => none
theorem mapStr_inv {x : Run W} {o : Out W} {m' : Mem} (q : mapStr x = some (o, m')) : x = some (o, m') ∧ ((∃ i, o = .ok (.dat (.str i))) ∨ ∃ c fs, o = .ex c fs) := by
  unfold mapStr at q
  split at q
  · cases q; exact ⟨rfl, .inl ⟨_, rfl⟩⟩
  · cases q; exact ⟨rfl, .inr ⟨_, _, rfl⟩⟩
  · cases q
theorem backToOne {e : Expr} {env : Env} {pos : Pos} : True := trivial
theorem se_lenO (M : OwnM X.K c "__len__") (F : DefA X.prog X.w X.K X.mg X.base (He.ma X.K (He.ga X.K c) "__len__") j ps mf 1 [] (fun ws _ => ws)) (hr : Room (j + 1) X.A) (hG : X.A.guards = some []) (ha : SE X a ma) (hg : Gl X "len") (hm : X.mg "len" = none)
    {p0 : Pos} (h0 : noStar a = true := by rfl) : SE X (.Call (.Name "len" p0) [a] [] pos) (mOwn1 c mf mapLen ma) := by
  refine ⟨own1_len (fun x o m' q => ⟨o, (mapLen_inv q).1⟩) F.len ha, fun ρ m o m' q B al σ H Q wd rs h pins s I => ?_⟩
  have t := own1_run (A := X.A.in1) F hr.in1 hG (fun I => I.env0.in1) ha q wd rs h (fun v H' => ∃ i, v = .int i ∧ 0 ≤ i ∧ i < 2 ^ 63 ∧ Q v H') fun x e => by
    obtain ⟨e1, e2⟩ := mapLen_inv e
    refine ⟨o, e1, ?_⟩
    rcases e2 with ⟨i, rfl, i0, i1⟩ | ⟨cc, fs, rfl⟩
    · intro B' al' v H' e g wd r
      have r' : Rep X.K B' v (.int i) := r
      cases r'
      exact ⟨i, rfl, i0, i1, h B' al' _ H' e g wd (.int i)⟩
    · exact h
  refine wpAny_Call_Name_kw (ld_blt I hg hm (by decide +kernel : bootBuiltins "len" = some (.builtin "len")) ?_ (by decide) (by decide))
  refine PyProof.Rows.callWith_builtin1 (thn ((pa_cons pe_w pa_nil (starEach_cons h0)).run pos pins s σ H (fun vs H1 => ∃ p dx gs, vs = [.ref p] ∧ H1 p = some (.ins (He.ga X.K c) dx gs) ∧ ∀ pins s, Inv X pins σ H1 s → wpAny (model X.prog X.w) X.A.in1 (call (.ref (He.ma X.K (He.ga X.K c) "__len__")) [.ref p]) (EP X pins σ _) X.xe s) I (show wE X a σ H _ from wE.mono t fun v H1 ⟨p, dx, gs, e1, e2, e3⟩ => ⟨p, dx, gs, by rw [e1], e2, e3⟩)) fun us s1 ⟨vs, H1, I1, r1, p, dx, gs, ev, ep, q1⟩ => ?_) (starEach_cons h0) rfl
  subst ev
  obtain ⟨u1, rfl, ru⟩ := vals1 r1
  obtain rfl : u1 = Value.ref p := ru
  obtain ⟨mA, O, _⟩ := ins_get I1.hok ep
  obtain ⟨od, J, _⟩ := O.look
  obtain ⟨mF, hF⟩ := I1.fr
  refine PySem.W.len_K hF I1.ok.mod.kin J M.hs M.hf (thn (q1 pins s1 I1) fun r s3 ⟨z, H3, I3, rz, i, ez, i0, i1, qz⟩ => ?_)
  subst ez
  obtain ⟨tk, rfl⟩ := rz
  exact ⟨⟨i0, i1⟩, .int i, H3, I3.tok _, ⟨_, rfl⟩, qz⟩
end
end Dm
/-! Dm, part 42: != by an own __eq__, repr, properties. -/
namespace DmX
open PySem PySem.W Builtin
section
variable {prog : Program} {w : World} {A : Around} {E : Value → Shared → Prop} {s : Shared} {K : Frag} {x C f : Addr} {ox : Obj} {od : Option Obj} {b tb : Value}
theorem ne_slot {Q : Option Value → Shared → Prop} (hu : A.units + 1 < cLine) (X : K.In s.heap) (I : InstAt s.heap x ox C od) (hne : findIn K (.ref C) "__ne__" = some (some (.builtin "object.__ne__"))) (heq : findIn K (.ref C) "__eq__" = some (some (.ref f))) (hf : isFn K (.ref f) = true)
    (hm : mroIn K C (.type "object") = some true) (h : wpAny (model prog w) A.in1 (call (.ref f) [.ref x, b]) (fun v s' => ∃ bb, v = .bool bb ∧ Q (some (.bool (!bb))) s') E s) : wpAny (model prog w) A (callSpecialIfBound? (.ref x) "__ne__" [b]) Q E s := by
  have body : wpAny (model prog w) A (call (.builtin "object.__ne__") [.ref x, b]) (fun v => Q (some v)) E s := by
    refine wpAny_call (codeAny_call_builtin PySem.F.cmp_object.ne.plain PySem.F.cmpEntry_ne (check_slot PySem.F.cmpKind_ne PySem.F.cmpSplit_ne (I.type.andThen (looks_mroIn X hm)) (PySem.F.cmpArgs_ne _ _) ?_))
    unfold Builtin.«object.__ne__»
    refine wpAny_bind (m := slotArgs "__ne__" 1 _) (wpAny_pure ?_)
    refine wpAny_bind (m := cRoomFor _ _) (wpAny_cRoomFor (by show A.units + 1 < cLine; exact hu) ?_)
    refine wpAny_bind (m := callSpecialIfBound? (.ref x) (Str.ofString "__eq__") _) (ifBound_K X I heq hf (wpAny_mono h (fun v s' hv => ?_) fun _ _ e => e))
    obtain ⟨bb, rfl, q⟩ := hv
    first
      | exact wpAny_bind (wpAny_truthy_bool (wpAny_pure ⟨_, rfl, q⟩))
      | exact wpAny_bind (m := truthy (.bool bb)) (wpAny_truthy_bool (wpAny_pure q))
      | exact wpAny_bind (m := truthy (.bool bb)) (wpAny_truthy_bool (wpAny_pure ⟨_, rfl, q⟩))
  simp only [callSpecialIfBound?, bindSpecialIfBound?]
  refine wpAny_holding (wpAny_bind (wpAny_bind (wpAny_bind (I.type.here ((looks_findIn X hne).here ?_)))))
  simp only [PySem.F.cmp_object.ne.bind]
  refine wpAny_bind (wpAny_askSetting (wpAny_ite ?_))
  have go : wpAny (model prog w) A (call (.builtin "object.__ne__") ([.ref x] ++ [b]) >>= fun v => pure (some v)) Q E s := wpAny_bind (wpAny_mono body (fun _ _ z => wpAny_pure z) fun _ _ z => z)
  split
  · exact wpAny_bind (wpAny_pure (wpAny_pure go))
  · exact wpAny_tryCatch (wpAny_bind (wpAny_pure (wpAny_pure go)))
theorem ne_own {Q : Value → Shared → Prop} (hu : A.units + 1 < cLine) (X : K.In s.heap) (I : InstAt s.heap x ox C od) (hb : Looks (model prog w) s.heap (typeOf b) tb) (hn : notFirst K C tb = true) (hne : findIn K (.ref C) "__ne__" = some (some (.builtin "object.__ne__"))) (heq : findIn K (.ref C) "__eq__" = some (some (.ref f))) (hf : isFn K (.ref f) = true)
    (hm : mroIn K C (.type "object") = some true) (h : wpAny (model prog w) A.in1 (call (.ref f) [.ref x, b]) (fun v s' => ∃ bb, v = .bool bb ∧ Q (.bool (!bb)) s') E s) : wpAny (model prog w) A (richCompare .NotEq (.ref x) b) Q E s := by
  have one : wpAny (model prog w) A (tryCompare (.ref x) "__ne__" b) (fun r s' => ∃ v, r = some v ∧ Q v s') E s := by
    unfold tryCompare
    refine wpAny_bind (wpAny_mono (ne_slot (Q := fun r s' => ∃ bb, r = some (.bool bb) ∧ Q (.bool bb) s') hu X I hne heq hf hm (wpAny_mono h (fun v s' ⟨bb, e1, q⟩ => ⟨bb, e1, _, rfl, q⟩) fun _ _ e => e)) (fun r s' ⟨bb, e1, q⟩ => ?_) fun _ _ e => e)
    subst e1
    exact wpAny_pure ⟨_, rfl, q⟩
  unfold richCompare
  simp only [oneThing_ref]
  refine wpAny_holding (wpAny_bind (wpAny_cRoomFor (Nat.lt_of_succ_lt hu) ?_))
  refine wpAny_bind (I.type.here (wpAny_bind (hb.here ?_)))
  have done : ∀ s', (∃ v, (some v = some v) ∧ Q v s') → True := fun _ _ => trivial
  split
  · rename_i q
    have e : subIn K tb (.ref C) = some false := by
      rcases Bool.or_eq_true_iff.mp hn with e | e
      · have := beq_iff_eq.mp e
        subst this
        simp at q
      · exact beq_iff_eq.mp e
    refine wpAny_bind ((looks_subIn X e).here ?_)
    rw [if_neg (by simp)]
    refine wpAny_bind (wpAny_mono one (fun r s' z => ?_) fun _ _ e => e)
    obtain ⟨v, rfl, hq⟩ := z
    exact wpAny_pure hq
  · refine wpAny_bind (wpAny_pure ?_)
    rw [if_neg (by simp)]
    refine wpAny_bind (wpAny_mono one (fun r s' z => ?_) fun _ _ e => e)
    obtain ⟨v, rfl, hq⟩ := z
    exact wpAny_pure hq
end
end DmX
namespace Dm
open PySem PySem.Spec PyProof.Rows L2
open Evl (Ex)
variable [Lams]
section
variable {X : Cx} {a b : Expr} {ma mb : EM} {c m0 : Str} {j k : Nat} {ps : List Str} {mf : FM} {pos : Pos}
theorem se_neO {owns : List Str} (T : ownB owns X.K = true) (hc : c ∈ owns) (M : OwnM X.K c "__eq__") (F : DefA X.prog X.w X.K X.mg X.base (He.ma X.K (He.ga X.K c) "__eq__") j ps mf 2 [] (fun ws _ => ws)) (hr : Room (j + 1) X.A) (hG : X.A.guards = some []) (ha : SE X a ma) (hb : SE X b mb)
    (hm : behindInMarks .NotEq b = false) : SE X (.Compare a [.NotEq] [b] pos) (mOwn2 false c (tyO owns) mf (mapB not) ma mb) := by
  refine ⟨own2_len mapB_some F.len ha hb, fun ρ m o m' q B al σ H Q wd rs h pins s I => ?_⟩
  have t := own2_run (A := X.A.in1) F hr.in1 hG (fun I => I.env0.in1) ha hb q wd rs h _ fun x e => mapB_post e h
  refine wpAny_Compare1 (binT pe_w pe_w I t fun v u s2 x y H2 I2 rx ry ⟨p, dx, gs, ex, ep, sd, q2⟩ => ?_) hm
  simp only [Bool.false_eq_true, if_false] at ex q2 sd
  subst ex
  obtain rfl : v = Value.ref p := rx
  rcases sd with sd | ⟨B', d, eB, vd, hd⟩
  · cases sd
  obtain ⟨tb, lt, nf⟩ := looks_any (M := model X.prog X.w) T hc I2 ry eB vd hd
  obtain ⟨_, _, p3, p4, _⟩ := ownB_parts T hc
  obtain ⟨mA, O, _⟩ := ins_get I2.hok ep
  obtain ⟨od, J, _⟩ := O.look
  refine DmX.ne_own (by have := hr.in1.units0; exact this) I2.kIn J lt nf p3 M.hs M.hf p4 (thn (q2 pins s2 [.ref p, u] I2 (.cons rfl (.cons ry .nil))) fun r s3 ⟨z, H3, I3, rz, bb, ez, qz⟩ => ?_)
  subst ez
  cases rz
  exact ⟨bb, rfl, .bl (!bb), H3, I3, rfl, qz⟩
theorem se_reprO (M : OwnM X.K c "__repr__") (F : DefA X.prog X.w X.K X.mg X.base (He.ma X.K (He.ga X.K c) "__repr__") j ps mf 1 [] (fun ws _ => ws)) (hr : Room (j + 1) X.A) (hG : X.A.guards = some []) (ha : SE X a ma) (hg : Gl X "repr") (hm : X.mg "repr" = none)
    {p0 : Pos} (h0 : noStar a = true := by rfl) : SE X (.Call (.Name "repr" p0) [a] [] pos) (mOwn1 c mf mapStr ma) := by
  refine ⟨own1_len (fun x o m' q => ⟨o, (mapStr_inv q).1⟩) F.len ha, fun ρ m o m' q B al σ H Q wd rs h pins s I => ?_⟩
  have t := own1_run (A := X.A.in1) F hr.in1 hG (fun I => I.env0.in1) ha q wd rs h (fun v H' => ∃ i, v = .str i ∧ Q v H') fun x e => by
    obtain ⟨e1, e2⟩ := mapStr_inv e
    refine ⟨o, e1, ?_⟩
    rcases e2 with ⟨i, rfl⟩ | ⟨cc, fs, rfl⟩
    · intro B' al' v H' e g wd r
      have r' : Rep X.K B' v (.str i) := r
      cases r'
      exact ⟨i, rfl, h B' al' _ H' e g wd (.str i)⟩
    · exact h
  refine wpAny_Call_Name_kw (ld_blt I hg hm (by decide +kernel : bootBuiltins "repr" = some (.builtin "repr")) ?_ (by decide) (by decide))
  refine PyProof.Rows.callWith_builtin1 (thn ((pa_cons pe_w pa_nil (starEach_cons h0)).run pos pins s σ H (fun vs H1 => ∃ p dx gs, vs = [.ref p] ∧ H1 p = some (.ins (He.ga X.K c) dx gs) ∧ ∀ pins s, Inv X pins σ H1 s → wpAny (model X.prog X.w) X.A.in1 (call (.ref (He.ma X.K (He.ga X.K c) "__repr__")) [.ref p]) (EP X pins σ _) X.xe s) I (show wE X a σ H _ from wE.mono t fun v H1 ⟨p, dx, gs, e1, e2, e3⟩ => ⟨p, dx, gs, by rw [e1], e2, e3⟩)) fun us s1 ⟨vs, H1, I1, r1, p, dx, gs, ev, ep, q1⟩ => ?_) (starEach_cons h0) rfl
  subst ev
  obtain ⟨u1, rfl, ru⟩ := vals1 r1
  obtain rfl : u1 = Value.ref p := ru
  obtain ⟨mA, O, _⟩ := ins_get I1.hok ep
  obtain ⟨od, J, _⟩ := O.look
  obtain ⟨mF, hF⟩ := I1.fr
  refine PySem.W.repr_K hr.in1.units0 hF I1.ok.mod.kin J M.hs M.hf (thn (q1 pins s1 I1) fun r s3 ⟨z, H3, I3, rz, i, ez, qz⟩ => ?_)
  subst ez
  obtain ⟨tk, rfl⟩ := rz
  exact ⟨.str i, H3, I3, ⟨_, rfl⟩, qz⟩
def noX : Run W → Run W
  | some (.ok w, m) => some (.ok w, m)
  | _ => none
theorem noX_inv {x : Run W} {o : Out W} {m' : Mem} (q : noX x = some (o, m')) : x = some (o, m') ∧ ∃ w, o = .ok w := by
  unfold noX at q
  split at q
  · cases q; exact ⟨rfl, _, rfl⟩
  · cases q
/-- e.f, a property -/
theorem se_propO {f : Str} {p g : Addr} {fd : FuncData} (hc : Cls X.K (He.ga X.K c)) (hp : PropOf X.K (He.ga X.K c) f p g) (F : DefA X.prog X.w X.K X.mg X.base g j ps mf 1 [] (fun ws _ => ws)) (hr : Room (j + 1) X.A) (hG : X.A.guards = some []) (ha : SE X a ma)
    (hab : attributeBase a f X.env (eval a X.env) = eval a X.env := by rfl) : SE X (.Attribute a f pos) (mOwn1 c mf noX ma) := by
  refine ⟨own1_len (fun x o m' q => ⟨o, (noX_inv q).1⟩) F.len ha, fun ρ m o m' q B al σ H Q wd rs h pins s I => ?_⟩
  obtain ⟨fd, G, bd⟩ := F.ex
  have t : wE X a σ H fun x H1 => ∃ p dx gs, x = .ref p ∧ H1 p = some (.ins (He.ga X.K c) dx gs) ∧ ∀ pins s, Inv X pins σ H1 s → codeAny (model X.prog X.w) X.A.in1 (.call (.ref g) ⟨[.ref p], []⟩) (fun r s' => (∃ u, r = .ok (.ret u) ∧ EP X pins σ Q u s') ∨ ∃ u, r = .error u ∧ X.xe u s' ∧ ((∃ w, o = .ok w) → False)) s ∧ ∃ w, o = .ok w := by
    refine ha.seq q wd rs h.res fun w1 m1 q1 l1 B1 al1 v1 H1 x1 g1 wd1 r1 => ?_
    split at q1
    · next ho =>
      obtain ⟨p, dx, gs, rfl, e5⟩ := isO_vw wd1 r1 ho
      obtain ⟨q1, w0, rfl⟩ := noX_inv q1
      exact ⟨p, dx, gs, rfl, e5, fun pins s I => ⟨code_A (A := X.A.in1) (ks := []) (kv := []) (zs := []) (us := []) (vs := [.ref p]) (ws := [w1]) G hr.in1 hG bd h l1 x1 g1 wd1 ⟨r1, trivial⟩ trivial rfl rfl q1 F.len I I.env0.in1 (.cons rfl .nil) .nil, w0, rfl⟩⟩
    · cases q1
  refine attr_of hab (thn (t pins s I) fun u s1 ⟨x, H1, I1, rx, q1, dx, gs, ex, ea, q2⟩ => ?_)
  subst ex
  obtain rfl : u = Value.ref q1 := rx
  obtain ⟨mA, O, _, _, _, _⟩ := ins_get I1.hok ea
  obtain ⟨od, J, _⟩ := O.look
  obtain ⟨rest, hrec⟩ := hp.rec_
  have hcl : (PySem.W.clsIn X.K (He.ga X.K c)).isSome = true := by
    obtain ⟨cd, z, _⟩ := PySem.W.any_some hc.hd
    rw [z]; rfl
  refine PySem.W.get_bind I1.kIn J (PySem.W.plainGet_of (hc.get f)).1 (PySem.W.findObj_data hcl hp.at_ hp.get hp.tak) (PySem.W.plainGet_of (hc.get f)).2 (wpAny_call (PySem.W.prop_get (s := { s1 with toks := s1.toks + 1 }) (I1.tok _).kIn hrec ?_))
  obtain ⟨q2, isok⟩ := q2 pins _ (I1.tok (s1.toks + 1))
  refine codeAny_mono q2 fun r s' z => ?_
  rcases z with ⟨u, rfl, v, H', I3, rv, q3⟩ | ⟨u, rfl, z, no⟩
  · show wpAny _ _ (handedOut u) _ _ _
    rw [PySem.W.handedOut_of (handed_of rv)]
    exact wpAny_pure ⟨v, H', I3, rv, q3⟩
  · exact (no isok).elim
end
end Dm
/-! Dm, part 43: {k: v for t in iter if ..}, keys ints or texts. -/
namespace Dm
open PySem PySem.Spec PyProof.Rows L2
open Evl (Ex)
variable [Lams]
def dcL (t : CT) (tt : TM) (tk te : EM) : List D → Slots → Mem → List (D × D) → Option (List (D × D) × Mem)
  | [], _, m, acc => some (acc, m)
  | d :: r, ρ, m, acc => match t.take d ρ with
    | none => none
    | some ρ1 => (match tt ρ1 m with
      | some (.ok false, m1) => dcL t tt tk te r ρ (m1.take m.length) acc
      | some (.ok true, m1) => (match tk ρ1 m1 with
        | some (.ok (.dat kd), m2) => (match te ρ1 m2, keyD kd with
          | some (.ok (.dat y), m3), some kk => dcL t tt tk te r ρ (m3.take m.length) (dPut acc kk y)
          | _, _ => none)
        | _ => none)
      | _ => none)
def mDc (mi : IM) (t : CT) (tt : TM) (tk te : EM) (vs : List Nat) : EM := fun ρ m => bnd (mi ρ m) fun ds m1 => if ds.length < LIM then (match dcL t tt tk te ds (wipeS ρ vs) m1 [] with
  | some (ys, m2) => rd (.dct ys) m2
  | none => none) else none
theorem dPut_len (es : List (D × D)) (k : Key) (v : D) : (dPut es k v).length ≤ es.length + 1 := by
  unfold dPut
  split
  · rw [List.length_map]; omega
  · rw [List.length_append]; exact Nat.le_refl _
section
variable {X : Cx} {tg iter kx vx : Expr} {mi : IM} {t : CT} {tt : TM} {tk te : EM} {ifs : List Expr}
theorem dcL_len (ht : ∀ ρ m o m', tt ρ m = some (o, m') → m.length ≤ m'.length) (hk : ∀ ρ m o m', tk ρ m = some (o, m') → m.length ≤ m'.length) (he : ∀ ρ m o m', te ρ m = some (o, m') → m.length ≤ m'.length) : ∀ (ds : List D) (ρ : Slots) (m : Mem) (acc ys : List (D × D)) (m' : Mem), dcL t tt tk te ds ρ m acc = some (ys, m') → m'.length = m.length
  | [], ρ, m, acc, ys, m', q => by cases q; rfl
  | d :: r, ρ, m, acc, ys, m', q => by
    unfold dcL at q
    split at q
    · cases q
    · next ρ1 e =>
      split at q
      · next m1 e1 =>
        have l1 := ht _ _ _ _ e1
        rw [dcL_len ht hk he r _ _ _ _ _ q, List.length_take]; omega
      · next m1 e1 =>
        have l1 := ht _ _ _ _ e1
        split at q
        · next kd m2 e2 =>
          have l2 := hk _ _ _ _ e2
          split at q
          · next y m3 kk e3 ek =>
            have l3 := he _ _ _ _ e3
            rw [dcL_len ht hk he r _ _ _ _ _ q, List.length_take]; omega
          · cases q
        · cases q
      · cases q
theorem mDc_cases {vs : List Nat} {ds : List D} {ρ : Slots} {m1 m' : Mem} {o : Out W} (q : (if ds.length < LIM then (match dcL t tt tk te ds (wipeS ρ vs) m1 [] with
  | some (ys, m2) => rd (.dct ys) m2
  | none => none) else none) = some (o, m')) : ds.length < LIM ∧ ∃ ys, dcL t tt tk te ds (wipeS ρ vs) m1 [] = some (ys, m') ∧ o = .ok (.dat (.dct ys)) := by
  split at q
  · next hl =>
    split at q
    · next ys m2 e => cases q; exact ⟨hl, ys, e, rfl⟩
    · cases q
  · cases q
/-- the word: the list at Dl holds what is made so far, and the rest is made as the mirror says -/
def DcW (X : Cx) (B0 : Hp) (al0 : Pl) (n0 : Nat) (σ : L2.St) (t : CT) (tt : TM) (tk te : EM) (ds : List D) (ρ : Slots) (vs : List Nat) (Dl : Addr) (ys : List (D × D)) (m' : Mem) : Nat → Nat → Hp → Prop := fun i k H =>
  k + i = ds.length ∧ ∃ B al m acc us, Ex B0 B ∧ Agr n0 al0 al ∧ m.length = n0 ∧ Wd X.K B al m H ∧ B Dl = none ∧ (∀ j c, m[j]? = some c → c.isDead = false → al j ≠ Dl) ∧ H Dl = some (.dK us) ∧ RepK X.K B us acc ∧ acc.length ≤ i ∧ RepS X.K B al n0 (wipe σ vs) (wipeS ρ vs) ∧ dcL t tt tk te (ds.drop i) (wipeS ρ vs) m acc = some (ys, m')
/-- what a comprehension reads -/
theorem dc_run {vs : List Nat} (ho : t.ok vs = true) (hi : SI X tg iter mi) {ρ : Slots} {m m' : Mem} {o : Out W} (q : mDc mi t tt tk te vs ρ m = some (o, m')) {B : Hp} {al : Pl} {σ : L2.St} {H : Hp} {Q : VK} (wd : Wd X.K B al m H) (rs : RepS X.K B al m.length σ ρ) (h : AnsE X B al m.length σ Q m' o)
    {tu : TT} {tq tv : TE} (htu : ∀ (ρ1 : Slots) (m1 : Mem) (b : Bool) (m2 : Mem), tt ρ1 m1 = some (.ok b, m2) → ∀ B al σ H Q, Wd X.K B al m1 H → RepS X.K B al m1.length σ ρ1 → (∀ B' al' H', Ex B B' → Agr m1.length al al' → Wd X.K B' al' m2 H' → Q b H') → tu σ H Q)
    (htk : ∀ (ρ1 : Slots) (m1 : Mem) (w : W) (m2 : Mem), tk ρ1 m1 = some (.ok w, m2) → ∀ B al σ H Q, Wd X.K B al m1 H → RepS X.K B al m1.length σ ρ1 → AnsW X.K B al m1.length w m2 Q → tq σ H Q)
    (htv : ∀ (ρ1 : Slots) (m1 : Mem) (w : W) (m2 : Mem), te ρ1 m1 = some (.ok w, m2) → ∀ B al σ H Q, Wd X.K B al m1 H → RepS X.K B al m1.length σ ρ1 → AnsW X.K B al m1.length w m2 Q → tv σ H Q)
    (ltt : ∀ ρ m o m', tt ρ m = some (o, m') → m.length ≤ m'.length) (ltk : ∀ ρ m o m', tk ρ m = some (o, m') → m.length ≤ m'.length) (lte : ∀ ρ m o m', te ρ m = some (o, m') → m.length ≤ m'.length) : tDc (wI X tg iter) (t.g X.K) tu tq tv vs σ H (fun v H' => Q v H' ∨ ∃ a u, v = .ref a ∧ H' a = some u ∧ L2.Mut (some u) ∧ ∀ od, Q v (upd H' a (.frz od u))) := by
  rcases bnd_cases q with ⟨ds, m1, e1, q1⟩ | ⟨c, fs, e1, rfl⟩
  · refine hi.run _ _ _ _ e1 B al σ H _ wd rs fun B1 al1 J H1 x1 g1 wd1 ys => ?_
    have l1 := hi.len _ _ _ _ e1
    obtain ⟨hlim, zs, qz, rfl⟩ := mDc_cases q1
    intro Dl hD
    have gl := Gr.by wd1.ext (o := .dK []) hD
    have wdl := wd1.grow gl
    have hB1 : B1 Dl = none := by
      cases z : B1 Dl with
      | none => rfl
      | some u => rw [wd1.ext _ u z] at hD; cases hD
    have hF1 : al1.fr Dl = none := by
      cases z : al1.fr Dl with
      | none => rfl
      | some u => rw [wd1.fx _ u z] at hD; cases hD
    refine ⟨DcW X B1 al1 m1.length σ t tt tk te ds ρ vs Dl zs m', ⟨ds.length, by simp, B1, al1, m1, [], [], Ex.refl _, Agr.refl, rfl, wdl, hB1, fun j c e hd => wd1.notNew hD e hd, upd_same, .nil, Nat.zero_le _, repS_wipes (rs.mono x1 g1 l1) vs, qz⟩, ?_⟩
    rintro i k H2 ⟨hk, B2, al2, m2, acc, us, x2, g2, l2, wd2, b2, nh2, hl2, ra, la, rs2, q2⟩
    have hF2 : al2.fr Dl = none := by rw [g2.fr]; exact hF1
    obtain ⟨yg, ye⟩ := ys i B2 H2 x2 wd2.ext
    cases hd : ds[i]? with
    | none =>
      have hl : ds.length ≤ i := List.getElem?_eq_none_iff.mp hd
      rw [List.drop_eq_nil_of_le hl] at q2
      cases q2
      refine .inl ⟨ye hl, .inr ⟨Dl, .dK us, rfl, hl2, trivial, fun od => ?_⟩⟩
      obtain ⟨wd3, exB⟩ := wd2.freezeAs (o' := .frz od (.dK us)) hl2 b2 hF2 nh2
      exact h _ al2 _ _ ((x1.trans x2).trans exB) (g1.trans g2 l1) wd3 (.dct (.inr ⟨od, upd_same⟩) (ra.mono exB))
    | some d =>
      have hi' : i < ds.length := (List.getElem?_eq_some_iff.mp hd).1
      have ed : ds.drop i = d :: ds.drop (i + 1) := by
        rw [List.drop_eq_getElem_cons hi']
        congr 1
        exact (List.getElem?_eq_some_iff.mp hd).2
      rw [ed] at q2
      obtain ⟨jg, jy⟩ := yg d hd
      refine .inr ⟨jg, fun H' => ∃ k', k' < k ∧ DcW X B1 al1 m1.length σ t tt tk te ds ρ vs Dl zs m' (i + 1) k' H', fun H' z => z, fun x H3 y => ?_⟩
      obtain ⟨B3, g3, r3⟩ := jy x H3 y
      have wd3 := wd2.grow g3
      have hl3 : H3 Dl = some (.dK us) := g3.h _ _ hl2
      have b3 : B3 Dl = none := g3.new Dl (by rw [hl2]; simp) b2
      have rs3 := rs2.mono g3.b Agr.refl (Nat.le_refl _)
      have wdh := wd3.hide hl3 b3 nh2
      unfold dcL at q2
      split at q2
      · cases q2
      · next ρ1 eT =>
        refine ct_run ho eT wd3.ext r3 rs3 fun σ4 rs4 hw => ⟨hw, ?_⟩
        have rs4' : RepS X.K B3 (al2.hide Dl (.dK us)) m2.length σ4 ρ1 := by rw [l2]; exact rs4
        split at q2
        · next m4 e4 =>
          refine htu ρ1 m2 false m4 e4 B3 _ σ4 H3 _ wdh rs4' fun B4 al4 H4 x4 g4 wd4 => ?_
          rw [if_neg Bool.false_ne_true]
          obtain ⟨w5, b5, h5, n5⟩ := wd4.unhide (o' := .dK us) g4.fr hF2
          have same : upd H4 Dl (.dK us) = H4 := by
            funext a
            by_cases z : a = Dl
            · subst z; rw [upd_same]; exact h5.symm
            · rw [upd_ne z]
          rw [same] at w5
          have xx := (x2.trans g3.b).trans x4
          have l4 := ltt _ _ _ _ e4
          have gg : Agr m1.length al1 ⟨al4.at_, al2.fr⟩ := ⟨fun j hj => (g4.at_ j (by omega)).trans (g2.at_ j hj), g2.fr⟩
          refine ⟨ds.length - (i + 1), by omega, by omega, B4, ⟨al4.at_, al2.fr⟩, _, acc, us, xx, gg, by rw [List.length_take]; omega, w5.take _, b5, fun j c e hd => n5 j c (by rw [List.getElem?_take] at e; split at e; exact e; cases e) hd, h5, ra.mono (g3.b.trans x4), by omega, ?_, q2⟩
          exact RepS.mono (al := al2) (al' := ⟨al4.at_, al2.fr⟩) x4 ⟨fun j hj => g4.at_ j (by omega), rfl⟩ (Nat.le_refl _) rs3
        · next m4 e4 =>
          split at q2
          · next kd m5 e5 =>
            split at q2
            · next y m6 kk e6 ek =>
              refine htu ρ1 m2 true m4 e4 B3 _ σ4 H3 _ wdh rs4' fun B4 al4 H4 x4 g4 wd4 => ?_
              rw [if_pos rfl]
              have l4 := ltt _ _ _ _ e4
              refine htk ρ1 m4 (.dat kd) m5 e5 B4 al4 σ4 H4 _ wd4 (rs4'.mono x4 g4 l4) fun B5 al5 v5 H5 x5 g5 wd5 r5 => ?_
              have l5 := ltk _ _ _ _ e5
              refine htv ρ1 m5 (.dat y) m6 e6 B5 al5 σ4 H5 _ wd5 ((rs4'.mono x4 g4 l4).mono x5 g5 l5) fun B6 al6 v6 H6 x6 g6 wd6 r6 => ?_
              have l6 := lte _ _ _ _ e6
              have ff : al6.fr = (al2.hide Dl (.dK us)).fr := g6.fr.trans (g5.fr.trans g4.fr)
              have kv : v5 = kV kk := keyD_val ek r5
              obtain ⟨w7, b7, h7, n7⟩ := wd6.unhide (o' := .dK (putK us kk v6)) ff hF2
              have xx := (((x2.trans g3.b).trans x4).trans x5).trans x6
              have gg : Agr m1.length al1 ⟨al6.at_, al2.fr⟩ := ⟨fun j hj => (g6.at_ j (by omega)).trans ((g5.at_ j (by omega)).trans ((g4.at_ j (by omega)).trans (g2.at_ j hj))), g2.fr⟩
              have hlen : us.length < sizeLine := by
                rw [RepK.length ra]
                exact lim_lt (by omega)
              refine ⟨us, kk, kv, h7, hlen, ds.length - (i + 1), by omega, by omega, B6, ⟨al6.at_, al2.fr⟩, _, dPut acc kk y, putK us kk v6, xx, gg, by rw [List.length_take]; omega, w7.take _, b7, fun j c e hd => n7 j c (by rw [List.getElem?_take] at e; split at e; exact e; cases e) hd, upd_same, ?_, Nat.le_trans (dPut_len acc kk y) (by omega), ?_, q2⟩
              · exact dPut_rep r6 (ra.mono (((g3.b.trans x4).trans x5).trans x6))
              · exact RepS.mono (al := al2) (al' := ⟨al6.at_, al2.fr⟩) ((x4.trans x5).trans x6) ⟨fun j hj => (g6.at_ j (by omega)).trans ((g5.at_ j (by omega)).trans (g4.at_ j (by omega))), rfl⟩ (Nat.le_refl _) rs3
            · cases q2
          · cases q2
        · cases q2
  · exact hi.run _ _ _ _ e1 B al σ H _ wd rs h
section
variable {scope : Scope} {own : List (Str × Nat)} {pos : Pos}
theorem dc_len (hi : SI X tg iter mi) {vs : List Nat} (lt : ∀ ρ m o m', tt ρ m = some (o, m') → m.length ≤ m'.length) (lk : ∀ ρ m o m', tk ρ m = some (o, m') → m.length ≤ m'.length) (le : ∀ ρ m o m', te ρ m = some (o, m') → m.length ≤ m'.length) : ∀ ρ m o m', mDc mi t tt tk te vs ρ m = some (o, m') → m.length ≤ m'.length := fun ρ m o m' q =>
  bnd_len q (hi.len ρ m) fun ds m1 q1 => by
    obtain ⟨_, zs, qz, _⟩ := mDc_cases q1
    exact Nat.le_of_eq (dcL_len lt lk le _ _ _ _ _ _ qz).symm
theorem se_dc (hc : X.calm = true) (hN : X.N.Nodup) (hi : SI X tg iter mi) (ok : BlkOk X.N X.env.scope scope own) (hg : ∀ (s : Shared) (H : Hp) (C : Addr) (cl : List (Str × Addr)) (fp : List Addr), PG (X.blk s H scope (compEnvC scope cl C X.env) fp) tg (t.g X.K))
    (bk : Blk X scope ifs kx tt tk) (be : Blk X scope ifs vx tt te) (ho : t.ok (own.map (·.2)) = true) (hs : ∀ x, foldedSetIterable iter X.env x = pure x) : SE X (.DictComp kx vx [⟨tg, iter, ifs, 0⟩] scope pos) (mDc mi t tt tk te (own.map (·.2))) :=
  ⟨dc_len hi bk.lens.1 bk.lens.2 be.lens.2, fun ρ m o m' q B al σ H Q wd rs h => wE.lock fun pins s I => (pe_dc hc hN pi_w ok hg uT_ok uE_ok uE_ok hs).run pins s σ H _ I
    (dc_run ho hi q wd rs h (fun ρ1 m1 b1 m2 e B al σ H Q wd rs hq s H0 C cl fp => (bk.t s H0 C cl fp).run _ _ _ _ e B al σ H Q wd rs hq) (fun ρ1 m1 w m2 e B al σ H Q wd rs hq s H0 C cl fp => (bk.e s H0 C cl fp).run _ _ _ _ e B al σ H Q wd rs hq) (fun ρ1 m1 w m2 e B al σ H Q wd rs hq s H0 C cl fp => (be.e s H0 C cl fp).run _ _ _ _ e B al σ H Q wd rs hq) bk.lens.1 bk.lens.2 be.lens.2)⟩
end
end
end Dm
set_option maxHeartbeats 4000000
/-! Dm, part 44: set(x), whatever the items are: an invariant of the set that is being filled. -/
namespace DmS
open PySem PySem.W PySem.Calls PyProof.Rows L2 Builtin
open Lean Elab Tactic Meta PySem.Spec
/-- the set that set() makes -/
def emptySet (w : World) : Obj := { cls := .type "set", dict := none, data := .set #[] 0 (.fresh 0 0 (!w.params.followText "set-order")) }
/-- each item's adding leads the invariant on, and touches the set alone -/
def AddsAt (P : Program) (w : World) (base : Heap) (S : Addr) (Pv : Nat → Value → Prop) (n : Nat) (J : Nat → Heap → Prop) : Prop :=
  ∀ (i : Nat) (v : Value), i < n → Pv i v → ∀ (A : Around) (E : Value → Shared → Prop) (z : Shared), A.handled = none → J i z.heap → (∀ b o, base.get? b = some o → z.heap.get? b = some o) →
    ∀ R : Shared → Prop, (∀ h' tk, z.toks ≤ tk → Heap.SameBut S z.heap h' → J (i + 1) h' → R { z with heap := h', toks := tk }) → wpAny (model P w) A (setAdd S v) (fun _ z' => R z') E z
section
variable {P : Program} {w : World} {A : Around} {E : Value → Shared → Prop} {s : Shared}
theorem adds_loop {I : Addr} {fp wr : List Addr} {G : Array GenState → Array GenState → Prop} {n : Nat} {Pv : Nat → Value → Prop} {St : Nat → Shared → Prop} {R : Result → Shared → Prop}
    (walk : WalksS P w A.in1 I fp wr G n Pv St) (S : Addr) (out : S ∉ fp) (base : Heap) (J : Nat → Heap → Prop)
    (Jstay : ∀ i h1 h2, J i h1 → (∀ o, h1.get? S = some o → h2.get? S = some o) → J i h2) (Jadd : AddsAt P w base S Pv n J) (hS : base.objs.size ≤ S) :
    ∀ (left i : Nat) (z : Shared), n - i = left → i ≤ n → St i z → J i z.heap → (∀ b o, base.get? b = some o → z.heap.get? b = some o) → A.handled = none → (∀ b ∈ wr, base.objs.size ≤ b) →
      (∀ z', Moved (S :: wr) G z z' → J n z'.heap → (∀ b o, base.get? b = some o → z'.heap.get? b = some o) → R (.ok (.ret .none)) z') →
      codeAny (model P w) A (.builtin "set.update.loop" ⟨[.ref S, .ref I], []⟩) R z := by
  have keeps : ∀ {z z' : Shared}, Moved wr G z z' → (∀ b ∈ wr, base.objs.size ≤ b) → (∀ b o, base.get? b = some o → z.heap.get? b = some o) → ∀ b o, base.get? b = some o → z'.heap.get? b = some o := fun m hw k b o e =>
    m.heap b o (fun hb => absurd (Heap.lt_size e) (Nat.not_lt.mpr (hw b hb))) (k b o e)
  have notW : S ∉ wr := fun x => out (walk.sub S x)
  intro left
  induction left with
  | zero =>
    intro i z e0 le0 st j k calm hw fin
    obtain rfl : i = n := by omega
    refine codeAny_builtin F.entry_set_update_loop ?_
    rw [Around.under_plainId F.plain_set_update_loop _]
    show wpAny _ A.in1 (pyNext (.ref I) >>= _) _ _ z
    refine wpAny_bind (walk.done z _ _ st fun z' m => ?_)
    show wpAny _ A.in1 (ret Value.none) _ _ z'
    exact wpAny_pure (fin z' (m.mono fun b hb => List.mem_cons_of_mem _ hb) (Jstay _ _ _ j fun o e => m.heap S o notW e) (keeps m hw k))
  | succ left ih =>
    intro i z e0 le0 st j k calm hw fin
    have lt0 : i < n := by omega
    refine codeAny_builtin F.entry_set_update_loop ?_
    rw [Around.under_plainId F.plain_set_update_loop _]
    show wpAny _ A.in1 (pyNext (.ref I) >>= _) _ _ z
    refine wpAny_bind (walk.item i z _ _ lt0 st fun v z' pv st' m => ?_)
    show wpAny _ A.in1 (holding [v] (setAdd S v) >>= _) _ _ z'
    refine wpAny_bind (wpAny_holding (Jadd i v lt0 pv A.in1 _ z' (by simp [calm]) (Jstay _ _ _ j fun o e => m.heap S o notW e) (keeps m hw k) _ fun h' tk htk sb j' => ?_))
    have k2 : ∀ b o, base.get? b = some o → h'.get? b = some o := fun b o e => by
      rw [sb.2 b (Nat.ne_of_lt (Nat.lt_of_lt_of_le (Heap.lt_size e) hS))]
      exact keeps m hw k b o e
    refine wpAny_pure ⟨plainId_quiet F.plain_set_update_loop _, ih (i + 1) _ (by omega) lt0 (walk.frame _ z' _ _ st' htk fun b hb o e => ?_) j' k2 calm hw fun z2 m2 j2 kk => ?_⟩
    · rw [sb.2 b (fun x : b = S => out (by rw [← x]; exact hb))]; exact e
    · refine fin z2 (Moved.trans walk.gtrans ((m.mono fun b hb => List.mem_cons_of_mem _ hb).then_heap htk fun b o hb e => ?_) m2) j2 kk
      rw [sb.2 b (fun x : b = S => hb (by rw [x]; exact List.mem_cons_self))]; exact e

set_option maxHeartbeats 3200000 in
/-- set(x), x a list: each item is added in turn -/
theorem set_of_list {src : Addr} {its : Array Value} {J : Nat → Heap → Prop} {Q : Value → Shared → Prop} (calm : A.handled = none) (there : s.heap.IsList src its)
    (J0 : ∀ h' : Heap, h'.get? s.heap.objs.size = some (emptySet w) → J 0 h')
    (Jstay : ∀ i h1 h2, J i h1 → (∀ o, h1.get? s.heap.objs.size = some o → h2.get? s.heap.objs.size = some o) → J i h2)
    (Jadd : AddsAt P w s.heap s.heap.objs.size (fun i v => its[i]? = some v) its.size J)
    (fin : ∀ (h' : Heap) (tk : Nat), J its.size h' → (∀ b o, s.heap.get? b = some o → h'.get? b = some o) → Q (.ref s.heap.objs.size) { s with heap := h', toks := tk }) :
    wpAny (model P w) A (call (.type "set") [.ref src]) Q E s := by
  obtain ⟨_, _, mro1⟩ := F.called_set.mro
  have made1 := F.called_set.made
  have sub1 := F.called_set.sub
  refine wpAny_call (codeAny_of_tree (wpAny_pure ⟨Code.quiet_builtin _ (by decide +kernel), codeAny_builtin F.entry_type_call ?_⟩))
  rw [Around.under_plain (weight_type_call_type "set" [.ref src] []) rfl]
  have ty1 := F.called_set.notType
  have ty2 := F.called_set.canCreate
  have ty3 := F.typeCall_set_1 (.ref src)
  repeat (any_goals (first | assumption | wp_step))
  have lt0 : src < s.heap.objs.size := by
    obtain ⟨_, z, _⟩ := there
    exact Heap.lt_size z
  generalize hp1 : s.heap.push (emptySet w) = h1 at *
  have at1 : h1.get? s.heap.objs.size = some (emptySet w) := by rw [← hp1]; exact Heap.get?_push_size _ rfl
  have old1 : ∀ b o, s.heap.get? b = some o → h1.get? b = some o := fun b o e => by rw [← hp1]; exact Heap.get?_push_of_some _ e
  have size1 : h1.objs.size = s.heap.objs.size + 1 := by rw [← hp1]; exact Heap.size_push ..
  refine codeAny_mono (code_set_led1 (.ref src) (E := E) (Q₁ := fun v z => v = .ref s.heap.objs.size ∧ z = { s with heap := h1 }) ⟨rfl, by rw [← hp1]; rfl⟩) fun r z hr => ?_
  rcases r with e | fl
  · exact hr
  rcases fl with _ | _ | _ | obj
  · exact hr.elim
  · exact hr.elim
  · exact hr.elim
  obtain ⟨rfl, rfl⟩ := hr
  have tyS : Shared.TypeIs { s with heap := h1 } (.ref s.heap.objs.size) "set" := ⟨_, at1, rfl⟩
  have look1 := F.called_set.init.lookup
  have bind1 := F.called_set.init.bind (.ref s.heap.objs.size)
  repeat (any_goals (first | assumption | wp_step))
  refine codeAny_mono (codeAny_call_builtin (R := wants (fun v z => v = .none ∧ ∃ h' tk, z = { s with heap := h', toks := tk } ∧ J its.size h' ∧ ∀ b o, s.heap.get? b = some o → h'.get? b = some o) E) F.called_set.init.plain F.entry_set_init (check_set_init_1 tyS ?_)) fun r z hr => ?_
  · obtain ⟨⟨oc, od, dt, sl⟩, get0, cls0, n0, dat0⟩ := there
    simp only at cls0 dat0
    subst cls0 dat0
    have get1 := old1 _ _ get0
    have sub2 := F.sub_list_set
    have sub3 := F.sub_list_frozenset
    have not4 : (Value.type "list" == Value.type "dict") = false := by decide
    have is1 : h1.IsList src its := ⟨_, get1, rfl, n0, rfl⟩
    unfold Builtin.«set.__init__» noKeywords Builtin.Frozenset.updateFrom
    generalize hit : pyIter = itf
    wp_walk
    subst hit
    refine wpAny_pyIter_list is1 (wpAny_bind (wpAny_runValue ?_))
    have calm3 : A.in1.in1.in1.handled = none := by simp [calm]
    have apart : src ≠ h1.objs.size := by rw [size1]; exact Nat.ne_of_lt (Nat.lt_succ_of_lt lt0)
    have out1 : s.heap.objs.size ∉ [h1.objs.size, src] := by
      simp only [List.mem_cons, List.not_mem_nil, or_false, not_or]
      exact ⟨by rw [size1]; exact Nat.ne_of_lt (Nat.lt_succ_self _), Nat.ne_of_gt lt0⟩
    refine adds_loop ((Walks.list calm3 _ src apart its).toS) s.heap.objs.size out1 s.heap J Jstay (fun i v x => Jadd i v x) (Nat.le_refl _) (its.size - 0) 0 _ (by omega) (Nat.zero_le _) ⟨⟨_, Heap.get?_push_size _ rfl, rfl, rfl⟩, is1.push _⟩ (J0 _ (Heap.get?_push_of_some _ at1)) (fun b o e => Heap.get?_push_of_some _ (old1 b o e)) (by simp [calm]) (fun b hb => ?_) fun z m jz kz => ?_
    · rcases List.mem_cons.mp hb with rfl | hb
      · rw [size1]; exact Nat.le_succ _
      · cases hb
    · obtain ⟨hh, gg, dd, tt, oo⟩ := z
      obtain rfl : gg = s.gens := m.gens
      obtain rfl : dd = s.drawn := m.drawn
      obtain rfl : oo = s.os := m.os
      show wpAny _ _ _ _ _ _
      refine wpAny_pure ?_
      show wpAny _ _ (ret Value.none) _ _ _
      exact wpAny_pure ⟨rfl, hh, tt, rfl, jz, kz⟩
  · rcases r with e | fl
    · exact hr
    rcases fl with _ | _ | _ | v
    · exact hr.elim
    · exact hr.elim
    · exact hr.elim
    obtain ⟨rfl, h', tk, rfl, jz, kz⟩ := hr
    repeat (any_goals (first | assumption | wp_step))
    exact fin _ _ jz kz

set_option maxHeartbeats 3200000 in
/-- set(x), x a tuple: each item is added in turn -/
theorem set_of_tuple {src : Addr} {its : Array Value} {J : Nat → Heap → Prop} {Q : Value → Shared → Prop} (calm : A.handled = none) (there : s.heap.IsTuple src its)
    (J0 : ∀ h' : Heap, h'.get? s.heap.objs.size = some (emptySet w) → J 0 h')
    (Jstay : ∀ i h1 h2, J i h1 → (∀ o, h1.get? s.heap.objs.size = some o → h2.get? s.heap.objs.size = some o) → J i h2)
    (Jadd : AddsAt P w s.heap s.heap.objs.size (fun i v => its[i]? = some v) its.size J)
    (fin : ∀ (h' : Heap) (tk : Nat), J its.size h' → (∀ b o, s.heap.get? b = some o → h'.get? b = some o) → Q (.ref s.heap.objs.size) { s with heap := h', toks := tk }) :
    wpAny (model P w) A (call (.type "set") [.ref src]) Q E s := by
  obtain ⟨_, _, mro1⟩ := F.called_set.mro
  have made1 := F.called_set.made
  have sub1 := F.called_set.sub
  refine wpAny_call (codeAny_of_tree (wpAny_pure ⟨Code.quiet_builtin _ (by decide +kernel), codeAny_builtin F.entry_type_call ?_⟩))
  rw [Around.under_plain (weight_type_call_type "set" [.ref src] []) rfl]
  have ty1 := F.called_set.notType
  have ty2 := F.called_set.canCreate
  have ty3 := F.typeCall_set_1 (.ref src)
  repeat (any_goals (first | assumption | wp_step))
  have lt0 : src < s.heap.objs.size := by
    obtain ⟨_, z, _⟩ := there
    exact Heap.lt_size z
  generalize hp1 : s.heap.push (emptySet w) = h1 at *
  have at1 : h1.get? s.heap.objs.size = some (emptySet w) := by rw [← hp1]; exact Heap.get?_push_size _ rfl
  have old1 : ∀ b o, s.heap.get? b = some o → h1.get? b = some o := fun b o e => by rw [← hp1]; exact Heap.get?_push_of_some _ e
  have size1 : h1.objs.size = s.heap.objs.size + 1 := by rw [← hp1]; exact Heap.size_push ..
  refine codeAny_mono (code_set_led1 (.ref src) (E := E) (Q₁ := fun v z => v = .ref s.heap.objs.size ∧ z = { s with heap := h1 }) ⟨rfl, by rw [← hp1]; rfl⟩) fun r z hr => ?_
  rcases r with e | fl
  · exact hr
  rcases fl with _ | _ | _ | obj
  · exact hr.elim
  · exact hr.elim
  · exact hr.elim
  obtain ⟨rfl, rfl⟩ := hr
  have tyS : Shared.TypeIs { s with heap := h1 } (.ref s.heap.objs.size) "set" := ⟨_, at1, rfl⟩
  have look1 := F.called_set.init.lookup
  have bind1 := F.called_set.init.bind (.ref s.heap.objs.size)
  repeat (any_goals (first | assumption | wp_step))
  refine codeAny_mono (codeAny_call_builtin (R := wants (fun v z => v = .none ∧ ∃ h' tk, z = { s with heap := h', toks := tk } ∧ J its.size h' ∧ ∀ b o, s.heap.get? b = some o → h'.get? b = some o) E) F.called_set.init.plain F.entry_set_init (check_set_init_1 tyS ?_)) fun r z hr => ?_
  · obtain ⟨⟨oc, od, dt, sl⟩, get0, cls0, n0, dat0⟩ := there
    simp only at cls0 dat0
    subst cls0 dat0
    have get1 := old1 _ _ get0
    have sub2 := F.sub_tuple_set
    have sub3 := F.sub_tuple_frozenset
    have not4 : (Value.type "tuple" == Value.type "dict") = false := by decide
    have is1 : h1.IsTuple src its := ⟨_, get1, rfl, n0, rfl⟩
    unfold Builtin.«set.__init__» noKeywords Builtin.Frozenset.updateFrom
    generalize hit : pyIter = itf
    wp_walk
    subst hit
    refine wpAny_pyIter_tuple is1 (wpAny_bind (wpAny_runValue ?_))
    have calm3 : A.in1.in1.in1.handled = none := by simp [calm]
    have apart : src ≠ h1.objs.size := by rw [size1]; exact Nat.ne_of_lt (Nat.lt_succ_of_lt lt0)
    have out1 : s.heap.objs.size ∉ [h1.objs.size, src] := by
      simp only [List.mem_cons, List.not_mem_nil, or_false, not_or]
      exact ⟨by rw [size1]; exact Nat.ne_of_lt (Nat.lt_succ_self _), Nat.ne_of_gt lt0⟩
    refine adds_loop ((Walks.tuple calm3 _ src apart its).toS) s.heap.objs.size out1 s.heap J Jstay (fun i v x => Jadd i v x) (Nat.le_refl _) (its.size - 0) 0 _ (by omega) (Nat.zero_le _) ⟨⟨_, Heap.get?_push_size _ rfl, rfl, rfl⟩, is1.push _⟩ (J0 _ (Heap.get?_push_of_some _ at1)) (fun b o e => Heap.get?_push_of_some _ (old1 b o e)) (by simp [calm]) (fun b hb => ?_) fun z m jz kz => ?_
    · rcases List.mem_cons.mp hb with rfl | hb
      · rw [size1]; exact Nat.le_succ _
      · cases hb
    · obtain ⟨hh, gg, dd, tt, oo⟩ := z
      obtain rfl : gg = s.gens := m.gens
      obtain rfl : dd = s.drawn := m.drawn
      obtain rfl : oo = s.os := m.os
      show wpAny _ _ _ _ _ _
      refine wpAny_pure ?_
      show wpAny _ _ (ret Value.none) _ _ _
      exact wpAny_pure ⟨rfl, hh, tt, rfl, jz, kz⟩
  · rcases r with e | fl
    · exact hr
    rcases fl with _ | _ | _ | v
    · exact hr.elim
    · exact hr.elim
    · exact hr.elim
    obtain ⟨rfl, h', tk, rfl, jz, kz⟩ := hr
    repeat (any_goals (first | assumption | wp_step))
    exact fin _ _ jz kz
end
end DmS
set_option maxHeartbeats 2000000
/-! Dm, part 45: sorted(set(ints)), len(set(ints)). -/
namespace DmS
open PySem PySem.W PySem.Calls PyProof.Rows L2 Builtin
open PySem.Spec
section
variable {P : Program} {w : World} {A : Around} {E : Value → Shared → Prop} {s : Shared}
def JI (w : World) (S : Addr) (ns : List Int) (i : Nat) (h : Heap) : Prop := ∃ c, c ≤ i ∧ SetR w h S (fun j => decide (j ∈ ns.take i)) c
theorem JI_stay {S : Addr} {ns : List Int} (i : Nat) (h1 h2 : Heap) (j : JI w S ns i h1) (k : ∀ o, h1.get? S = some o → h2.get? S = some o) : JI w S ns i h2 := by
  obtain ⟨c, hc, r⟩ := j
  exact ⟨c, hc, r.at k⟩
theorem JI_add {base : Heap} {S : Addr} {its : Array Value} {ns : List Int} (hi : IntsAre its.toList ns) (room : ns.length + 1 < scanBound) : AddsAt P w base S (fun i v => its[i]? = some v) its.size (JI w S ns) := by
  intro i v lt pv A E z calm ⟨c, hc, r⟩ kp R fin
  have hl : its.size = ns.length := by
    have q := IntsAre.length hi
    rwa [Array.length_toList] at q
  have hn : i < ns.length := by omega
  obtain ⟨t, e⟩ := PyProof.Rows.IntsAre.int_at hi i v (by rw [Array.getElem?_toList]; exact pv)
  have e2 : ns.getD i 0 = ns[i] := by rw [List.getD_eq_getElem?_getD, List.getElem?_eq_getElem hn]; rfl
  rw [e2] at e
  subst e
  unfold setAdd
  refine wpAny_holding (wpAny_bind ((intKind P w).pyHash (k := ns[i]) (intKind_is _ _ _ _) ?_))
  refine setR_add_hashed (s := { z with toks := z.toks + 1 }) r (by omega) fun h' sb r2 => ?_
  refine fin h' (z.toks + 1) (Nat.le_succ _) sb ⟨_, ?_, r2.congr fun j => ?_⟩
  · split <;> omega
  · have tk : ns.take (i + 1) = ns.take i ++ [ns[i]] := by rw [List.take_add_one, List.getElem?_eq_getElem hn]; rfl
    rw [tk]
    simp only [List.mem_append, List.mem_singleton, Bool.decide_or]
theorem JI_zero {S : Addr} {ns : List Int} (h : Heap) (e : h.get? S = some (emptySet w)) : JI w S ns 0 h := ⟨0, Nat.le_refl 0, setR_new_at e⟩
end
end DmS
namespace Dm
open PySem PySem.Spec PyProof.Rows L2
open Evl (Ex)
variable [Lams]
/-- put into a rising list, once -/
def insU (x : Int) : List Int → List Int
  | [] => [x]
  | y :: r => if x < y then x :: y :: r else if x = y then y :: r else y :: insU x r
def usI (ns : List Int) : List Int := ns.foldr insU []
theorem insU_mem {x y : Int} : ∀ {l : List Int}, y ∈ insU x l ↔ y = x ∨ y ∈ l
  | [] => by simp [insU]
  | z :: r => by
    unfold insU
    split
    · simp
    · split
      · next h => subst h; simp
      · rw [List.mem_cons, insU_mem, List.mem_cons]
        constructor
        · rintro (h | h | h)
          · exact .inr (.inl h)
          · exact .inl h
          · exact .inr (.inr h)
        · rintro (h | h | h)
          · exact .inr (.inl h)
          · exact .inl h
          · exact .inr (.inr h)
theorem insU_lt {x : Int} : ∀ {l : List Int}, l.Pairwise (· < ·) → (insU x l).Pairwise (· < ·)
  | [], _ => by simp [insU]
  | z :: r, h => by
    obtain ⟨h1, h2⟩ := List.pairwise_cons.mp h
    unfold insU
    split
    · next hl =>
      refine List.pairwise_cons.mpr ⟨fun y hy => ?_, h⟩
      rcases List.mem_cons.mp hy with rfl | hy
      · exact hl
      · exact Int.lt_trans hl (h1 y hy)
    · split
      · exact h
      · next a b =>
        refine List.pairwise_cons.mpr ⟨fun y hy => ?_, insU_lt h2⟩
        rcases insU_mem.mp hy with rfl | hy
        · omega
        · exact h1 y hy
theorem usI_lt : ∀ {ns : List Int}, (usI ns).Pairwise (· < ·)
  | [] => .nil
  | x :: r => insU_lt (usI_lt (ns := r))
theorem usI_mem {y : Int} : ∀ {ns : List Int}, y ∈ usI ns ↔ y ∈ ns
  | [] => by simp [usI]
  | x :: r => by
    show y ∈ insU x (usI r) ↔ _
    rw [insU_mem, usI_mem, List.mem_cons]
/-- a rising list is told by its members -/
theorem rising_eq : ∀ {l k : List Int}, l.Pairwise (· < ·) → k.Pairwise (· < ·) → (∀ x, x ∈ l ↔ x ∈ k) → l = k
  | [], [], _, _, _ => rfl
  | [], y :: r, _, _, h => absurd ((h y).mpr List.mem_cons_self) List.not_mem_nil
  | x :: r, [], _, _, h => absurd ((h x).mp List.mem_cons_self) List.not_mem_nil
  | x :: r, y :: q, h1, h2, h => by
    obtain ⟨a1, a2⟩ := List.pairwise_cons.mp h1
    obtain ⟨b1, b2⟩ := List.pairwise_cons.mp h2
    have e : x = y := by
      rcases List.mem_cons.mp ((h x).mp List.mem_cons_self) with z | z
      · exact z
      · rcases List.mem_cons.mp ((h y).mpr List.mem_cons_self) with z2 | z2
        · exact z2.symm
        · have := b1 x z; have := a1 y z2; omega
    subst e
    congr 1
    refine rising_eq a2 b2 fun z => ⟨fun hz => ?_, fun hz => ?_⟩
    · rcases List.mem_cons.mp ((h z).mp (List.mem_cons_of_mem _ hz)) with rfl | w
      · exact absurd (a1 _ hz) (Int.lt_irrefl _)
      · exact w
    · rcases List.mem_cons.mp ((h z).mpr (List.mem_cons_of_mem _ hz)) with rfl | w
      · exact absurd (b1 _ hz) (Int.lt_irrefl _)
      · exact w
def intsD : List D → Option (List Int)
  | [] => some []
  | .int i :: r => (intsD r).map (i :: ·)
  | _ => none
theorem intsD_map : ∀ ns : List Int, intsD (ns.map D.int) = some ns
  | [] => rfl
  | x :: r => by rw [List.map_cons, intsD, intsD_map r]; rfl
theorem intsD_eq : ∀ {ds : List D} {ns : List Int}, intsD ds = some ns → ds = ns.map D.int
  | [], _, e => by cases e; rfl
  | .int i :: r, _, e => by
    obtain ⟨ms, e1, rfl⟩ := Option.map_eq_some_iff.mp e
    rw [intsD_eq e1]; rfl
theorem reps_ints {K : PySem.W.Frag} {B : Hp} : ∀ {ns : List Int} {vs : List V}, Reps K B vs (ns.map D.int) → vs = ns.map V.int
  | [], _, .nil => rfl
  | _ :: _, _, .cons r rs => by cases r; rw [reps_ints rs]; rfl
theorem ints_reps {K : PySem.W.Frag} {B : Hp} : ∀ ns : List Int, Reps K B (ns.map V.int) (ns.map D.int)
  | [] => .nil
  | x :: r => .cons (.int x) (ints_reps r)
def seqD : D → Option (List D)
  | .lst ds => some ds
  | .tup ds => some ds
  | _ => none
/-- sorted(set(x)), ints -/
def fUSI (d : D) : Option D := (seqD d).bind fun ds => (intsD ds).bind fun ns => if ns.length < 64 then some (.lst ((usI ns).map .int)) else none
def fLSI (d : D) : Option D := (seqD d).bind fun ds => (intsD ds).bind fun ns => if ns.length < 4000 then some (.int (usI ns).length) else none
def rSeqI (K : PySem.W.Frag) (Z : List Int → Hp → VK → Prop) : V → Hp → VK → Prop := fun x H Q => ∃ a ns, x = .ref a ∧ (SqL K H a (ns.map V.int) ∨ SqT K H a (ns.map V.int)) ∧ Z ns H Q
theorem uns_seqI {X : Cx} {f : D → Option D} {g : List Int → Option D} (hf : ∀ d, f d = (seqD d).bind fun ds => (intsD ds).bind g) {Z : List Int → Hp → VK → Prop} (hZ : ∀ ns d B H Q, g ns = some d → Ex B H → (∀ B' v H', Gr B B' H H' → Rep X.K B' v d → Q v H') → Z ns H Q) : UnS X (rSeqI X.K Z) f := by
  intro dx d e B H x eB hx Q k
  rw [hf] at e
  obtain ⟨ds, e1, e2⟩ := Option.bind_eq_some_iff.mp e
  obtain ⟨ns, e3, e4⟩ := Option.bind_eq_some_iff.mp e2
  have e5 := intsD_eq e3
  subst e5
  cases dx with
  | lst zs =>
    cases e1
    obtain ⟨a, vs, rfl, q, r⟩ := hx
    exact ⟨a, ns, rfl, .inl (by rw [← reps_ints r]; exact q), hZ ns d B H Q e4 eB k⟩
  | tup zs =>
    cases e1
    obtain ⟨a, vs, rfl, q, r⟩ := hx
    exact ⟨a, ns, rfl, .inr (by rw [← reps_ints r]; exact q.1), hZ ns d B H Q e4 eB k⟩
  | _ => cases e1
section
variable {X : Cx} {a : Expr} {ma : EM} {p p2 q pos : Pos}
theorem se_sortedSetI (hc : X.calm = true) (hg : Gl X "sorted") (hm : X.mg "sorted" = none) (hg2 : Gl X "set") (hm2 : X.mg "set" = none) (ha : SE X a ma) (h0 : noStar a = true := by rfl) :
    SE X (.Call (.Name "sorted" p) [.Call (.Name "set" p2) [a] [] q] [] pos) (mUn fUSI ma) := by
  refine ⟨un_len ha, fun ρ m o m' qq B al σ H Q wd rs h pins s I => ?_⟩
  have t := un_run (uns_seqI (X := X) (f := fUSI) (g := fun ns => if ns.length < 64 then some (.lst ((usI ns).map .int)) else none) (fun d => rfl) (Z := fun ns H Q => ns.length < 64 ∧ ∀ p, H p = none → Q (.ref p) (upd H p (.lst ((usI ns).map V.int)))) fun ns d B H Q e eB k => by
    split at e
    · next hl =>
      cases e
      exact ⟨hl, fun p hp => k _ _ _ (Gr.lay eB hp) (.lst (.inl (.inl upd_same)) (ints_reps _))⟩
    · cases e) ha qq wd rs h
  refine Call_ (ld_blt I hg hm bt_sorted ?_ (by decide) (by decide))
  refine PyProof.Rows.callWith_builtin1 (PyProof.Rows.args_cons ?_ rfl) rfl rfl
  refine Call_ (ld_blt I hg2 hm2 bt_set ?_ (by decide) (by decide))
  refine PyProof.Rows.callWith_type1 (PyProof.Rows.args_cons (thn (t pins s I) fun v s1 ⟨x, H1, I1, r1, l, ns, ex, sq, h64, k⟩ => PyProof.Rows.args_nil ?_) (starEach_cons h0)) (starEach_cons h0) rfl
  subst ex
  obtain rfl : v = Value.ref l := r1
  have srt : ∀ (n : Nat), n = ns.length → ∀ (h' : Heap) (tk : Nat), DmS.JI X.w s1.heap.objs.size ns n h' → (∀ b o, s1.heap.get? b = some o → h'.get? b = some o) →
      wpAny (model X.prog X.w) X.A (call (.builtin "sorted") [.ref s1.heap.objs.size]) (EP X pins σ Q) X.xe { s1 with heap := h', toks := tk } := by
    intro n en h' tk ⟨c, hcl, R⟩ kp
    rw [en, List.take_length] at R
    have I2 : Inv X pins σ H1 { s1 with heap := h', toks := tk } := I1.kept kp
    refine sorted_set R (I2.ok.hd hc) (by omega) fun s' p out c' ms kk g o hp hg hi hs hme hl => ?_
    have em : ms = usI ns := rising_eq hs usI_lt fun x => by rw [hme, usI_mem]; simp
    subst em
    have hlen : ((usI ns).map V.int).length ≤ sizeLine := by rw [List.length_map, hl, sizeLine_eq]; omega
    have hn : H1 p = none := I2.hok.fresh hp
    have J := I2.call (H' := upd H1 p (.lst ((usI ns).map V.int))) (h' := s'.heap) (g' := s'.gens) (d' := s'.drawn) (t' := s'.toks) (ch := []) (Un.laid kk hp hn) (I2.hok.laid kk hp ⟨hlen, out.toList, c', vals_of_ints hi, hg⟩) (by rw [g]; exact I2.bare) (fun _ z => nomatch z)
    have e9 : s' = { s1 with heap := s'.heap, gens := s'.gens, drawn := s'.drawn, toks := s'.toks } := by
      obtain ⟨_, _, _, _, os'⟩ := s'
      have : os' = s1.os := o
      subst this; rfl
    rw [e9]
    exact ⟨.ref p, _, J, rfl, k p hn⟩
  have room : ns.length + 1 < scanBound := by unfold scanBound; omega
  rcases sq with sq | sq
  · obtain ⟨its, rv, pl, _⟩ := I1.list sq
    have hi : IntsAre its.toArray.toList ns := by simpa using RZ.intsAre_vals rv
    have hl : its.toArray.size = ns.length := by rw [List.size_toArray, ← rv.length, List.length_map]
    exact DmS.set_of_list (I1.ok.hd hc) pl.isList (J := DmS.JI X.w s1.heap.objs.size ns) (fun h' e => DmS.JI_zero h' e) DmS.JI_stay (DmS.JI_add hi room) fun h' tk j kp => PyProof.Rows.args_nil (srt _ hl h' tk j kp)
  · obtain ⟨its, rv, pl, _⟩ := I1.tuple sq
    have hi : IntsAre its.toArray.toList ns := by simpa using RZ.intsAre_vals rv
    have hl : its.toArray.size = ns.length := by rw [List.size_toArray, ← rv.length, List.length_map]
    exact DmS.set_of_tuple (I1.ok.hd hc) (let ⟨o1, e1, e2, n1, e3⟩ := pl; ⟨o1, e1, e2, n1, e3⟩) (J := DmS.JI X.w s1.heap.objs.size ns) (fun h' e => DmS.JI_zero h' e) DmS.JI_stay (DmS.JI_add hi room) fun h' tk j kp => PyProof.Rows.args_nil (srt _ hl h' tk j kp)
theorem se_lenSetI (hc : X.calm = true) (hg : Gl X "len") (hm : X.mg "len" = none) (hg2 : Gl X "set") (hm2 : X.mg "set" = none) (ha : SE X a ma) (h0 : noStar a = true := by rfl) :
    SE X (.Call (.Name "len" p) [.Call (.Name "set" p2) [a] [] q] [] pos) (mUn fLSI ma) := by
  refine ⟨un_len ha, fun ρ m o m' qq B al σ H Q wd rs h pins s I => ?_⟩
  have t := un_run (uns_seqI (X := X) (f := fLSI) (g := fun ns => if ns.length < 4000 then some (.int (usI ns).length) else none) (fun d => rfl) (Z := fun ns H Q => ns.length < 4000 ∧ Q (.int (usI ns).length) H) fun ns d B H Q e eB k => by
    split at e
    · next hl =>
      cases e
      exact ⟨hl, k _ _ _ (Gr.refl eB) (.int _)⟩
    · cases e) ha qq wd rs h
  refine Call_ (ld_blt I hg hm bt_len ?_ (by decide) (by decide))
  refine PyProof.Rows.callWith_builtin1 (PyProof.Rows.args_cons ?_ rfl) rfl rfl
  refine Call_ (ld_blt I hg2 hm2 bt_set ?_ (by decide) (by decide))
  refine PyProof.Rows.callWith_type1 (PyProof.Rows.args_cons (thn (t pins s I) fun v s1 ⟨x, H1, I1, r1, l, ns, ex, sq, h64, k⟩ => PyProof.Rows.args_nil ?_) (starEach_cons h0)) (starEach_cons h0) rfl
  subst ex
  obtain rfl : v = Value.ref l := r1
  have cnt : ∀ (n : Nat), n = ns.length → ∀ (h' : Heap) (tk : Nat), DmS.JI X.w s1.heap.objs.size ns n h' → (∀ b o, s1.heap.get? b = some o → h'.get? b = some o) →
      wpAny (model X.prog X.w) X.A (call (.builtin "len") [.ref s1.heap.objs.size]) (EP X pins σ Q) X.xe { s1 with heap := h', toks := tk } := by
    intro n en h' tk ⟨c, hcl, R⟩ kp
    rw [en, List.take_length] at R
    have I2 : Inv X pins σ H1 { s1 with heap := h', toks := tk } := I1.kept kp
    obtain ⟨oS, es, ep, tb, ho, hex, hd, gd, nd, hmm, hb, hf, hn, hr, hl⟩ := R
    have ec : c = (usI ns).length := by
      rw [← hn, ← Array.length_toList, ← List.length_map (f := keyOf)]
      have nd2 : (usI ns).Nodup := usI_lt.imp fun hlt he => by omega
      exact (List.perm_ext_iff_of_nodup nd nd2).mpr (fun x => by rw [← hmm, usI_mem]; simp) |>.length_eq
    subst ec
    exact call_len_set ho hex hd hf (by rw [hn]; omega) ⟨.int (usI ns).length, H1, I2.tok _, ⟨_, by rw [hn]⟩, k⟩
  have room : ns.length + 1 < scanBound := by unfold scanBound; omega
  rcases sq with sq | sq
  · obtain ⟨its, rv, pl, _⟩ := I1.list sq
    have hi : IntsAre its.toArray.toList ns := by simpa using RZ.intsAre_vals rv
    have hl : its.toArray.size = ns.length := by rw [List.size_toArray, ← rv.length, List.length_map]
    exact DmS.set_of_list (I1.ok.hd hc) pl.isList (J := DmS.JI X.w s1.heap.objs.size ns) (fun h' e => DmS.JI_zero h' e) DmS.JI_stay (DmS.JI_add hi room) fun h' tk j kp => PyProof.Rows.args_nil (cnt _ hl h' tk j kp)
  · obtain ⟨its, rv, pl, _⟩ := I1.tuple sq
    have hi : IntsAre its.toArray.toList ns := by simpa using RZ.intsAre_vals rv
    have hl : its.toArray.size = ns.length := by rw [List.size_toArray, ← rv.length, List.length_map]
    exact DmS.set_of_tuple (I1.ok.hd hc) (let ⟨o1, e1, e2, n1, e3⟩ := pl; ⟨o1, e1, e2, n1, e3⟩) (J := DmS.JI X.w s1.heap.objs.size ns) (fun h' e => DmS.JI_zero h' e) DmS.JI_stay (DmS.JI_add hi room) fun h' tk j kp => PyProof.Rows.args_nil (cnt _ hl h' tk j kp)
end
end Dm
set_option maxHeartbeats 2000000
/-! Dm, part 46: dicts walked: keys, values, items. -/
namespace Dm
open PySem PySem.Spec PyProof.Rows L2
open Evl (Ex)
variable [Lams]
section
variable {K : PySem.W.Frag} {B H : Hp} {al : Pl} {m : Mem}
/-- a dict among the data, keys ints or texts: it is locked -/
theorem Wd.dctL (wd : Wd K B al m H) {v : V} {es : List (D × D)} (r : Rep K B v (.dct es)) (h : es.all (fun e => isKD e.1) = true) : ∃ a o kvs, v = .ref a ∧ B a = some (.frz o (.dK kvs)) ∧ RepK K B kvs es := by
  cases r with
  | dct q rr =>
    rcases q with q | ⟨o, q⟩
    · exact absurd (wd.lk _ _ q) (by simp [undict])
    · exact ⟨_, o, _, rfl, q, rr⟩
  | dctT q rr => cases rr <;> simp [isKD, keyD] at h
end
def keysD (es : List (D × D)) : List D := es.map (·.1)
def valsD (es : List (D × D)) : List D := es.map (·.2)
def itemsD (es : List (D × D)) : List D := es.map fun p => .tup [p.1, p.2]
def dctOf (g : List (D × D) → List D) (w : W) (m : Mem) : Run (List D) := match w with
  | .dat (.dct es) => if es.all (fun e => isKD e.1) = true then ret (g es) m else none
  | _ => none
def iDct (g : List (D × D) → List D) (me : EM) : IM := fun ρ m => bnd (me ρ m) (dctOf g)
theorem dctOf_inv {g : List (D × D) → List D} {w : W} {m m' : Mem} {o : Out (List D)} (q : dctOf g w m = some (o, m')) : ∃ es, w = .dat (.dct es) ∧ es.all (fun e => isKD e.1) = true ∧ o = .ok (g es) ∧ m' = m := by
  unfold dctOf at q
  split at q
  · split at q
    · next h => cases q; exact ⟨_, rfl, h, rfl, rfl⟩
    · cases q
  · cases q
section
variable {X : Cx} {tg e : Expr} {me : EM} {apos cpos : Pos}
theorem iDct_len {g : List (D × D) → List D} (he : SE X e me) : ∀ ρ m o m', iDct g me ρ m = some (o, m') → m.length ≤ m'.length := fun ρ m o m' q => bnd_len q (he.len ρ m) fun w m1 q1 => by
  obtain ⟨_, _, _, _, rfl⟩ := dctOf_inv q1
  exact Nat.le_refl _
theorem si_keysD (he : SE X e me) : SI X tg e (iDct keysD me) := by
  refine ⟨iDct_len he, fun ρ m o m' q B al σ H R wd rs h pins s I => ?_⟩
  rcases bnd_cases q with ⟨w, m1, e1, q1⟩ | ⟨c, fs, e1, rfl⟩
  · obtain ⟨es, rfl, hk, rfl, rfl⟩ := dctOf_inv q1
    refine (pi_keys pe_w).run pins s σ H R I (he.run _ _ _ _ e1 B al σ H _ wd rs fun B1 al1 v1 H1 ex1 g1 wd1 r1 => ?_)
    obtain ⟨a, o, kvs, rfl, q2, rr⟩ := wd1.dctL r1 hk
    exact ⟨a, o, rfl, .inl ⟨kvs, wd1.ext _ _ q2, h B1 al1 _ H1 ex1 g1 wd1 (yields_keys q2 rr)⟩⟩
  · exact (pi_keys pe_w).run pins s σ H R I (he.run _ _ _ _ e1 B al σ H _ wd rs h)
theorem si_valsD (he : SE X e me) (hbase : attributeBase e "values" X.env (eval e X.env) = eval e X.env := by rfl) (hline : (apos.endLine == cpos.line) = true := by rfl) : SI X tg (.Call (.Attribute e "values" apos) [] [] cpos) (iDct valsD me) := by
  refine ⟨iDct_len he, fun ρ m o m' q B al σ H R wd rs h pins s I => ?_⟩
  rcases bnd_cases q with ⟨w, m1, e1, q1⟩ | ⟨c, fs, e1, rfl⟩
  · obtain ⟨es, rfl, hk, rfl, rfl⟩ := dctOf_inv q1
    refine (pi_values pe_w hbase hline).run pins s σ H R I (he.run _ _ _ _ e1 B al σ H _ wd rs fun B1 al1 v1 H1 ex1 g1 wd1 r1 => ?_)
    obtain ⟨a, o, kvs, rfl, q2, rr⟩ := wd1.dctL r1 hk
    exact ⟨a, o, kvs, rfl, wd1.ext _ _ q2, h B1 al1 _ H1 ex1 g1 wd1 (yields_vals q2 rr)⟩
  · exact (pi_values pe_w hbase hline).run pins s σ H R I (he.run _ _ _ _ e1 B al σ H _ wd rs h)
theorem si_itemsD {elts : List Expr} {kk : Nat} {tpos : Pos} (he : SE X e me) (hbase : attributeBase e "items" X.env (eval e X.env) = eval e X.env := by rfl) (hline : (apos.endLine == cpos.line) = true := by rfl) :
    SI X (.Tuple elts kk tpos) (.Call (.Attribute e "items" apos) [] [] cpos) (iDct itemsD me) := by
  refine ⟨iDct_len he, fun ρ m o m' q B al σ H R wd rs h pins s I => ?_⟩
  rcases bnd_cases q with ⟨w, m1, e1, q1⟩ | ⟨c, fs, e1, rfl⟩
  · obtain ⟨es, rfl, hk, rfl, rfl⟩ := dctOf_inv q1
    refine (pi_items pe_w hbase hline).run pins s σ H R I (he.run _ _ _ _ e1 B al σ H _ wd rs fun B1 al1 v1 H1 ex1 g1 wd1 r1 => ?_)
    obtain ⟨a, o, kvs, rfl, q2, rr⟩ := wd1.dctL r1 hk
    exact ⟨a, o, kvs, rfl, wd1.ext _ _ q2, h B1 al1 _ H1 ex1 g1 wd1 (yields_items q2 rr)⟩
  · exact (pi_items pe_w hbase hline).run pins s σ H R I (he.run _ _ _ _ e1 B al σ H _ wd rs h)
end
end Dm
/-! Dm, part 47: own classes in a law's head: properties, methods. -/
namespace Dm
open PySem PySem.Spec PyProof.Rows L2
/-- a property's getter: its class, its name, its def -/
structure PgD where
  c : Str
  f : Str
  qual : Str
  params : Arguments
  body : List Stmt
  scope : Scope
def pgA (K : PySem.W.Frag) (c f : Str) : Addr := match PySem.W.recIn K (He.ma K (He.ga K c) f) "property" with
  | some (.ref g :: _) => g
  | _ => 0
def fnWA (K : PySem.W.Frag) (a : Addr) : He.FnW := match K.lookup a with
  | some ⟨_, _, .func fd, _⟩ => some (fd.name, fd.qualname, fd.params, fd.body, fd.scope, fd.globals, fd.closure, fd.builtins)
  | _ => none
def PgD.val (d : PgD) : He.FnW := some (d.f, d.qual, d.params, .stmts d.body, d.scope, mainGlobals, [], builtinsNs)
def PgD.ok (K : PySem.W.Frag) (d : PgD) : Bool := decide (PySem.W.findIn K (.ref (He.ga K d.c)) d.f = some (some (.ref (He.ma K (He.ga K d.c) d.f)))) && decide (PySem.W.specialIn K (.ref (He.ma K (He.ga K d.c) d.f)) "__get__" = some (some (.builtin "property.__get__"))) &&
  decide (PySem.W.takesIn K (.ref (He.ma K (He.ga K d.c) d.f)) = some true) && (match PySem.W.recIn K (He.ma K (He.ga K d.c) d.f) "property" with
    | some (.ref _ :: _) => true
    | _ => false) && PySem.W.keepIn K (.ref (pgA K d.c d.f)) && (match K.lookup (pgA K d.c d.f) with
    | some ⟨_, _, .func fd, _⟩ => PySem.W.codeIn K fd.code d.qual && (He.dflB K fd.defaults [] && He.kwdB K fd.kwdefaults [])
    | _ => false)
theorem PgD.both {K : PySem.W.Frag} {d : PgD} (e : fnWA K (pgA K d.c d.f) = d.val) (h : d.ok K = true) : PropOf K (He.ga K d.c) d.f (He.ma K (He.ga K d.c) d.f) (pgA K d.c d.f) ∧ ∃ fd, FunD K d.f d.qual d.params d.body d.scope [] [] (pgA K d.c d.f) fd := by
  unfold PgD.ok at h
  rw [Bool.and_eq_true, Bool.and_eq_true, Bool.and_eq_true, Bool.and_eq_true, Bool.and_eq_true] at h
  obtain ⟨⟨⟨⟨⟨h1, h2⟩, h3⟩, h4⟩, h5⟩, h6⟩ := h
  refine ⟨⟨of_decide_eq_true h1, of_decide_eq_true h2, of_decide_eq_true h3, ?_⟩, ?_⟩
  · split at h4
    · next g rest er => exact ⟨rest, by rw [er]; unfold pgA; rw [er]⟩
    · cases h4
  · unfold fnWA at e
    cases q : K.lookup (pgA K d.c d.f) with
    | none => rw [q] at h6; cases h6
    | some o =>
      obtain ⟨oc, od, dt, sl⟩ := o
      rw [q] at h6 e
      cases dt with
      | func fd =>
        obtain ⟨a1, a2, a3, a4, a5, a6, a7, a8, a9, a10, a11, a12, a13, a14, a15⟩ := fd
        have e2 : (some (a1, a2, a3, a4, a5, a6, a7, a15) : He.FnW) = some (d.f, d.qual, d.params, .stmts d.body, d.scope, mainGlobals, [], builtinsNs) := e
        simp only [Option.some.injEq, Prod.mk.injEq] at e2
        obtain ⟨rfl, rfl, rfl, rfl, rfl, rfl, rfl, rfl⟩ := e2
        have h7 : (PySem.W.codeIn K a13 d.qual && (He.dflB K a8 [] && He.kwdB K a9 [])) = true := h6
        rw [Bool.and_eq_true, Bool.and_eq_true] at h7
        exact ⟨_, ⟨oc, od, a8, a9, a10, a11, a12, a13, a14, sl, rfl, q, h7.1, He.dflB_ok h7.2.1, He.kwdB_ok h7.2.2⟩, h5⟩
      | _ => cases h6
/-! ### the hook -/
abbrev AlY : Type := He.AlD × (Bool × List He.FnW)
def obsY (n : Nat) (fa : List He.Fa) (fn : List He.DefD) (ex : PySem.W.Frag → Bool) (pg : List PgD) (g : Addr → Option Obj) : AlY :=
  (He.obsDG n fa fn g, (ex (He.frG g (He.asD g n)) && pg.all fun d => d.ok (He.frG g (He.asD g n)), pg.map fun d => fnWA (He.frG g (He.asD g n)) (pgA (He.frG g (He.asD g n)) d.c d.f)))
def valY (fn : List He.DefD) (pg : List PgD) : AlY := (He.valD fn, (true, pg.map PgD.val))
structure SaysY (fa : List He.Fa) (fn : List He.DefD) (ex : PySem.W.Frag → Bool) (pg : List PgD) (K : PySem.W.Frag) : Prop where
  d : He.SaysD fa fn K
  ex : ex K = true
  pg : ∀ (i : Nat) (d : PgD), pg[i]? = some d → PropOf K (He.ga K d.c) d.f (He.ma K (He.ga K d.c) d.f) (pgA K d.c d.f) ∧ ∃ fd, FunD K d.f d.qual d.params d.body d.scope [] [] (pgA K d.c d.f) fd
def hookY (n : Nat) (fa : List He.Fa) (fn : List He.DefD) (ex : PySem.W.Frag → Bool) (pg : List PgD) : PySem.W.Hook where
  α := AlY
  obs := fun s => obsY n fa fn ex pg s.heap.get?
  val := fun _ => valY fn pg
  says := fun _ h => ∃ K : PySem.W.Frag, K.In h ∧ SaysY fa fn ex pg K
  of := fun _ s e => by
    have e1 := congrArg (fun z : AlY => z.1) e
    have e2 := congrArg (fun z : AlY => z.2.1) e
    have e3 := congrArg (fun z : AlY => z.2.2) e
    obtain ⟨h1, h2⟩ := Bool.and_eq_true_iff.mp e2
    refine ⟨_, He.frG_in, e1, h1, fun i d hd => PgD.both ?_ (List.all_eq_true.mp h2 d (List.mem_of_getElem? hd))⟩
    have e4 := congrArg (fun l : List He.FnW => l[i]?) e3
    have e5 : (pg.map fun d => fnWA (He.frG s.heap.get? (He.asD s.heap.get? n)) (pgA (He.frG s.heap.get? (He.asD s.heap.get? n)) d.c d.f))[i]? = (pg.map PgD.val)[i]? := e4
    rw [List.getElem?_map, List.getElem?_map, hd] at e5
    exact Option.some.inj e5
  keeps := fun _ _ _ ⟨K, hK, c⟩ k => ⟨K, PySem.W.Frag.In.keeps hK k, c⟩
theorem obsY_eq {n : Nat} {fa : List He.Fa} {fn : List He.DefD} {ex : PySem.W.Frag → Bool} {pg : List PgD} {g : Addr → Option Obj} {s : Shared} (h : ∀ a, g a = s.heap.get? a) : obsY n fa fn ex pg g = (hookY n fa fn ex pg).obs s := by
  have e : g = s.heap.get? := funext h
  rw [e] <;> rfl
variable [Lams]
/-! ### a method keeps its mirror -/
theorem defA_of {P : Program} {w : World} {K : PySem.W.Frag} {mg : Str → Option Value} {bs : Heap} {x qual : Str} {params : Arguments} {bd : List Stmt} {sc : Scope} {N ps : List Str} {k : Nat} {body : SM} {n : Nat} {ks : List Str} {gW : List W → List W → List W} {a : Addr}
    (F : ∃ fd, FunD K x qual params bd sc [] [] a fd) (S : FnScope N ps sc) (hsm : ∃ mm, bs.Ns sysModules mm) (rm : Room (k + 1) callerA) (hb : ∀ X : Cx, X.prog = P → X.w = w → X.K = K → X.mg = mg → X.base = bs → GoodF X N sc k → SSs X bd body)
    (hB : ∀ fd, FunD K x qual params bd sc [] [] a fd → Bdg K fd ps n ks gW) : DefA P w K mg bs a (k + 1) ps (mFn N body) n ks gW := by
  obtain ⟨fd, F⟩ := F
  refine ⟨⟨fd, def_fnG F S hsm hb, hB fd F⟩, mFn_len ?_⟩
  have g : GoodF (cxOf (L2.CX P w) P w K mg bs N qual sc 0 .none callerA [] ⟨{}, #[], {}, 1, {}⟩ (fun _ => none) E0) N sc k := goodF_cx rfl (rm.deeper _) S hsm
  exact (hb _ rfl rfl rfl rfl rfl g).len
theorem ownM_of {fa : List He.Fa} {fn : List He.DefD} {K : PySem.W.Frag} {mg : Str → Option Value} {bs : Heap} (T : Tx fa fn K mg bs) (i : Nat) {c m : Str} (h : fa[i]? = some (.meth c m)) : OwnM K c m :=
  have M := He.meth_ok (T.says.fact i h)
  ⟨M.at_, M.fn⟩
theorem fnIn_of {K : PySem.W.Frag} {x qual : Str} {params : Arguments} {bd : List Stmt} {sc : Scope} {dvs : List V} {kws : List (Str × V)} {a : Addr} (F : ∃ fd, FunD K x qual params bd sc dvs kws a fd) : PySem.W.fnIn K a = true := by
  obtain ⟨fd, F⟩ := F
  obtain ⟨_, _, _, _, _, _, _, _, _, _, _, lk, _⟩ := F.ex
  unfold PySem.W.fnIn
  rw [lk]
/-- raise, where no good input comes -/
def sNever : SM := fun _ _ => none
theorem ss_never {X : Cx} {st : Stmt} : SS X st sNever := by
  constructor
  · intro ρ m f m' q; cases q
  · intro ρ m f m' q; cases q
end Dm
set_option maxHeartbeats 1000000
/-! Dm, part 48: calls on a whole dict, max, min and sum of a list. -/
namespace DmT
open PySem PySem.Spec PyProof.Rows PySem.W
section
variable {prog : Program} {w : World} {T : String} {r d : Addr} {n : Nat} {P : Nat → Value → Prop} {OK : Heap → Prop}
/-- tuple(x), x any source of items that is no tuple -/
theorem tup_src (S : KdlSrc prog w T r d n P OK) (hn : n ≤ sizeLine) : MeetsIn prog w (Builtin.«tuple.__new__» ⟨[.type "tuple", .ref r], []⟩) (fun A R s => A.handled = none ∧ OK s.heap ∧
    ∀ (g : Heap) (tk : Nat) (xs : List Value), (∀ b o, s.heap.get? b = some o → g.get? b = some o) → ItemsOf P xs.toArray n → R (.ok (.ret (.ref g.objs.size))) { s with heap := g.push { cls := .type "tuple", data := .seq xs.toArray }, toks := tk }) :=
  .of_wp fun A R s h => by
    obtain ⟨hh, ok, h⟩ := h
    have cw : ∀ {Z : List Value → Shared → Prop} {E : Value → Shared → Prop}, (∀ (g : Heap) (tk : Nat) (acc : Array Value), (∀ b o, s.heap.get? b = some o → g.get? b = some o) → ItemsOf P acc n → Z acc.toList { s with heap := g, toks := tk }) → wpAny (model prog w) A.in1 (collect (.ref r)) Z E s := fun z => kdu_collect S hh ok hn z
    have a1 := sub_tuple_self
    have a2 := init_tuple_lookup
    have a3 := madeHere_tuple
    have ty := S.type s ok
    have nt := S.notTuple
    wp_walk using wpAny_typeOf ty, cw
    intro g tk acc hk hacc
    show wpAny _ _ (Builtin.Tuple.tupleExact acc.toList.toArray >>= ret) _ _ _
    unfold Builtin.Tuple.tupleExact
    have hz : acc.toList.toArray.size ≤ sizeLine := by
      have := hacc.1
      simp only [Array.toArray_toList]; omega
    refine wpAny_bind (wpAny_newObj_type ?_ hz)
    refine wpAny_pure ⟨_, rfl, h g tk acc.toList hk ?_⟩
    simpa using hacc
theorem call_tup_src {A : Around} {E : Value → Shared → Prop} {s : Shared} {Q : Value → Shared → Prop} (S : KdlSrc prog w T r d n P OK) (hn : n ≤ sizeLine) (hh : A.handled = none) (ok : OK s.heap)
    (h : ∀ (g : Heap) (tk : Nat) (xs : List Value), (∀ b o, s.heap.get? b = some o → g.get? b = some o) → ItemsOf P xs.toArray n → Q (.ref g.objs.size) { s with heap := g.push { cls := .type "tuple", data := .seq xs.toArray }, toks := tk }) :
    wpAny (model prog w) A (call (.type "tuple") [.ref r]) Q E s :=
  callType_newIn F.called_tuple (by decide) (F.typeCall_tuple_1 _) (F.newCall_tuple_1 _) (fun obj => F.args_object_init_2 obj _) F.entry_tuple_new (tup_src S hn)
    ⟨hh, ok, fun g tk xs hk hx => ⟨⟨_, Heap.get?_push_size _ rfl, rfl⟩, h g tk xs hk hx⟩⟩
end
end DmT
namespace Dm
open PySem PySem.Spec PyProof.Rows L2
open Evl (Ex)
variable [Lams]
section
variable {X : Cx}
/-- the keys of a dict, seen by a call -/
theorem vw_keys {K : PySem.W.Frag} {B H : Hp} {x : V} {es : List (D × D)} (h : Vw K B H x (.dct es)) (hk : es.all (fun e => isKD e.1) = true) : ∃ a kvs, x = .ref a ∧ Rd H a (.dK kvs) ∧ RepK K B kvs es := by
  obtain ⟨a, rfl, h | ⟨kvs, q, r⟩⟩ := h
  · obtain ⟨kvs, q, r⟩ := h; exact ⟨a, kvs, rfl, q, r⟩
  · cases r <;> simp [isKD] at hk
theorem repK_map {K : PySem.W.Frag} {B : Hp} : ∀ {kvs : List (Key × V)} {es : List (D × D)}, RepK K B kvs es → Reps K B (kvs.map fun kv => kV kv.1) (es.map (·.1)) ∧ es.map (·.1) = (kvs.map (·.1)).map kD
  | _, _, .nil => ⟨.nil, rfl⟩
  | _, _, .cons (k := k) r q => by
    obtain ⟨a, b⟩ := repK_map q
    refine ⟨?_, by simp [b]⟩
    cases k with
    | inl i => exact .cons (.int i) a
    | inr s => exact .cons (.str s) a
/-! ### tuple(d), list(d) -/
def fTupA : List D → Option D
  | [.dct es] => if es.all (fun e => isKD e.1) = true then some (.tup (es.map (·.1))) else none
  | xs => fTuple xs
def fListA : List D → Option D
  | [.dct es] => if es.all (fun e => isKD e.1) = true then some (.lst (es.map (·.1))) else none
  | xs => fList xs
theorem cd_tupleA (R : Rm X) : CallR X (.type "tuple") (rCD X fTupA) := by
  rintro pins s σ H xs us Q I rs ⟨B, ds, d, e, hx, hf, k⟩
  unfold fTupA at hf
  split at hf
  · next es =>
    split at hf
    · next hk =>
      cases hf
      obtain ⟨x, rfl, hv⟩ := vwl1 hx
      obtain ⟨a, kvs, rfl, hd, r⟩ := vw_keys hv hk
      obtain ⟨u, rfl, rx⟩ := vals1 rs
      cases rx
      obtain ⟨z, lo, vs, rel, dd⟩ := dk_rd I.hok hd
      obtain ⟨ep, hat⟩ := dd.dictAt
      have ek : (kvs.map fun kv => kV kv.1) = vs.map fun p => kV p.1 := by
        have := congrArg (List.map kV) rel.keys
        rwa [List.map_map, List.map_map] at this
      refine DmT.call_tup_src (PySem.W.kdl_dict (knd := mixKind X.prog X.w) (kvs := vs) (ep := ep) lo) (by rw [← rel.length]; exact z) (I.ok.hd R.calm) hat fun g tk ws kp hi => ?_
      have hv : Vals (kvs.map fun kv => kV kv.1) ws := by
        rw [ek]
        exact keys_at (by simpa using hi.1) fun j v q => hi.2 j v (by simpa using q)
      have I1 : Inv X pins σ H { s with heap := g, toks := tk } := I.kept kp
      have hn := I1.hok.fresh (Nat.le_refl _)
      obtain ⟨gr, rr⟩ := lay_tup e hn (repK_map r).1
      exact ⟨.ref _, _, I1.laid (t' := tk) (fun b u q => Heap.get?_push_of_some _ q) (Nat.le_refl _) (show ObjOk X.prog X.w _ _ _ (.tup _) from ⟨by rw [List.length_map]; exact z, ws, hv, IsTup.new _ _⟩), rfl, k _ _ _ gr rr⟩
    · cases hf
  · exact cd_tuple pins s σ H xs us Q I rs ⟨B, ds, d, e, hx, hf, k⟩
theorem cd_listA (R : Rm X) : CallR X (.type "list") (rCD X fListA) := by
  rintro pins s σ H xs us Q I rs ⟨B, ds, d, e, hx, hf, k⟩
  unfold fListA at hf
  split at hf
  · next es =>
    split at hf
    · next hk =>
      cases hf
      obtain ⟨x, rfl, hv⟩ := vwl1 hx
      obtain ⟨a, kvs, rfl, hd, r⟩ := vw_keys hv hk
      refine call_listD R.calm pins s σ H _ us Q I rs ⟨a, kvs, rfl, hd, fun p hp => ?_⟩
      obtain ⟨g, rr⟩ := lay_lst e hp (repK_map r).1
      exact k _ _ _ g rr
    · cases hf
  · exact cd_list pins s σ H xs us Q I rs ⟨B, ds, d, e, hx, hf, k⟩
end
end Dm
set_option maxHeartbeats 1000000
/-! Dm, part 49: sorted(d) of a dict of texts; max, min, sum of a list of ints; dict(x) as a new handle. -/
namespace Dm
open PySem PySem.Spec PyProof.Rows L2
open Evl (Ex)
variable [Lams]
/-- the order of texts -/
def leS (x y : Str) : Bool := !ltCps y.cps.toList x.cps.toList
theorem leS_iff {x y : Str} : leS x y = true ↔ x.cps.toList ≤ y.cps.toList := by
  unfold leS
  rw [ltCps_eq]
  simp [List.not_lt]
theorem leS_trans (x y z : Str) (h : leS x y = true) (g : leS y z = true) : leS x z = true := by
  rw [leS_iff] at *
  exact Std.IsPreorder.le_trans _ _ _ h g
theorem leS_total (x y : Str) : (leS x y || leS y x) = true := by
  rw [Bool.or_eq_true, leS_iff, leS_iff]
  exact Std.IsLinearOrder.le_total _ _
theorem leS_anti (x y : Str) (h : leS x y = true) (g : leS y x = true) : x = y := by
  rw [leS_iff] at *
  have e : x.cps.toList = y.cps.toList := Std.IsPartialOrder.le_antisymm _ _ h g
  cases x; cases y
  congr 1
  exact Array.toList_inj.mp e
def sortS (ks : List Str) : List Str := ks.mergeSort leS
theorem rising_pw : ∀ {p : Str} {l : List Str}, risingS p l = true → (p :: l).Pairwise (fun a b => leS a b = true)
  | p, [], _ => by simp
  | p, x :: r, h => by
    unfold risingS at h
    rw [Bool.and_eq_true] at h
    have ih := rising_pw h.2
    have h1 : leS p x = true := h.1
    refine List.pairwise_cons.mpr ⟨fun z hz => ?_, ih⟩
    rcases List.mem_cons.mp hz with rfl | hz
    · exact h1
    · exact leS_trans _ _ _ h1 ((List.pairwise_cons.mp ih).1 z hz)
theorem sortS_of {ys ks : List Str} (hp : ys.Perm ks) (h : sortedS ys = true) : ys = sortS ks := by
  refine PySem.W.Srt.the_of_perm leS leS_trans leS_total leS_anti hp ?_
  cases ys with
  | nil => exact .nil
  | cons x r => exact rising_pw h
def strsD : List D → Option (List Str)
  | [] => some []
  | .str i :: r => (strsD r).map (i :: ·)
  | _ => none
theorem strsD_eq : ∀ {ds : List D} {ks : List Str}, strsD ds = some ks → ds = ks.map D.str
  | [], _, h => by cases h; rfl
  | d :: r, ks, h => by
    unfold strsD at h
    split at h
    · next e => cases e
    · next i r' e =>
      cases e
      cases q : strsD r with
      | none => rw [q] at h; cases h
      | some z => rw [q] at h; cases h; rw [strsD_eq q]; rfl
    · cases h
theorem strsD_map : ∀ ks : List Str, strsD (ks.map D.str) = some ks
  | [] => rfl
  | k :: r => by show (strsD (r.map D.str)).map (k :: ·) = _; rw [strsD_map r]; rfl
def fSortA : List D → Option D
  | [.dct es] => (match strsD (es.map (·.1)) with
    | some ks => if ks.length < 64 then some (.lst ((sortS ks).map .str)) else none
    | none => none)
  | xs => fSorted xs
/-- the greatest, the least -/
def topI : Int → List Int → Int
  | a, [] => a
  | a, b :: r => topI (max a b) r
def lowI : Int → List Int → Int
  | a, [] => a
  | a, b :: r => lowI (min a b) r
theorem topI_spec : ∀ (r : List Int) (a : Int), (topI a r = a ∨ topI a r ∈ r) ∧ a ≤ topI a r ∧ ∀ y ∈ r, y ≤ topI a r
  | [], a => ⟨.inl rfl, Int.le_refl _, fun y hy => absurd hy List.not_mem_nil⟩
  | b :: r, a => by
    obtain ⟨h1, h2, h3⟩ := topI_spec r (max a b)
    refine ⟨?_, ?_, fun y hy => ?_⟩
    · show topI (max a b) r = a ∨ topI (max a b) r ∈ b :: r
      rcases h1 with h1 | h1
      · rw [h1]
        rcases Int.le_total a b with h | h
        · rw [Int.max_eq_right h]; exact .inr List.mem_cons_self
        · rw [Int.max_eq_left h]; exact .inl rfl
      · exact .inr (List.mem_cons_of_mem _ h1)
    · exact Int.le_trans (Int.le_max_left a b) h2
    · rcases List.mem_cons.mp hy with rfl | hy
      · exact Int.le_trans (Int.le_max_right a y) h2
      · exact h3 y hy
theorem lowI_spec : ∀ (r : List Int) (a : Int), (lowI a r = a ∨ lowI a r ∈ r) ∧ lowI a r ≤ a ∧ ∀ y ∈ r, lowI a r ≤ y
  | [], a => ⟨.inl rfl, Int.le_refl _, fun y hy => absurd hy List.not_mem_nil⟩
  | b :: r, a => by
    obtain ⟨h1, h2, h3⟩ := lowI_spec r (min a b)
    refine ⟨?_, ?_, fun y hy => ?_⟩
    · show lowI (min a b) r = a ∨ lowI (min a b) r ∈ b :: r
      rcases h1 with h1 | h1
      · rw [h1]
        rcases Int.le_total a b with h | h
        · rw [Int.min_eq_left h]; exact .inl rfl
        · rw [Int.min_eq_right h]; exact .inr List.mem_cons_self
      · exact .inr (List.mem_cons_of_mem _ h1)
    · exact Int.le_trans h2 (Int.min_le_left a b)
    · rcases List.mem_cons.mp hy with rfl | hy
      · exact Int.le_trans h2 (Int.min_le_right a y)
      · exact h3 y hy
def fMaxA : List D → Option D
  | [.lst ds] => (match intsD ds with
    | some (a :: r) => some (.int (topI a r))
    | _ => none)
  | xs => fMax xs
def fMinA : List D → Option D
  | [.lst ds] => (match intsD ds with
    | some (a :: r) => some (.int (lowI a r))
    | _ => none)
  | xs => fMin xs
def fSum : List D → Option D
  | [.lst ds] => (intsD ds).map fun ns => .int ns.sum
  | _ => none
section
variable {X : Cx}
theorem cd_maxA (R : Rm X) : CallR X (.builtin "max") (rCD X fMaxA) := by
  rintro pins s σ H xs us Q I rs ⟨B, ds, d, e, hx, hf, k⟩
  unfold fMaxA at hf
  split at hf
  · next zs =>
    split at hf
    · next a r q =>
      cases hf
      have ez := intsD_eq q
      subst ez
      obtain ⟨x, rfl, b, vs, rfl, hq, rr⟩ := vwl1 hx
      have ev := reps_ints rr
      subst ev
      refine cr_max R.calm pins s σ H _ us Q I rs ⟨b, a :: r, rfl, hq, by simp, fun m hm hy => ?_⟩
      obtain ⟨h1, h2, h3⟩ := topI_spec r a
      have em : m = topI a r := by
        refine Int.le_antisymm ?_ ?_
        · rcases List.mem_cons.mp hm with rfl | hm
          · exact h2
          · exact h3 m hm
        · rcases h1 with h1 | h1
          · rw [h1]; exact hy a List.mem_cons_self
          · exact hy _ (List.mem_cons_of_mem _ h1)
      rw [em]
      exact k B _ H (Gr.refl e) (.int _)
    · cases hf
  · exact cd_max R pins s σ H xs us Q I rs ⟨B, ds, d, e, hx, hf, k⟩
theorem cd_minA (R : Rm X) : CallR X (.builtin "min") (rCD X fMinA) := by
  rintro pins s σ H xs us Q I rs ⟨B, ds, d, e, hx, hf, k⟩
  unfold fMinA at hf
  split at hf
  · next zs =>
    split at hf
    · next a r q =>
      cases hf
      have ez := intsD_eq q
      subst ez
      obtain ⟨x, rfl, b, vs, rfl, hq, rr⟩ := vwl1 hx
      have ev := reps_ints rr
      subst ev
      refine cr_min R.calm pins s σ H _ us Q I rs ⟨b, a :: r, rfl, hq, by simp, fun m hm hy => ?_⟩
      obtain ⟨h1, h2, h3⟩ := lowI_spec r a
      have em : m = lowI a r := by
        refine Int.le_antisymm ?_ ?_
        · rcases h1 with h1 | h1
          · rw [h1]; exact hy a List.mem_cons_self
          · exact hy _ (List.mem_cons_of_mem _ h1)
        · rcases List.mem_cons.mp hm with rfl | hm
          · exact h2
          · exact h3 m hm
      rw [em]
      exact k B _ H (Gr.refl e) (.int _)
    · cases hf
  · exact cd_min R pins s σ H xs us Q I rs ⟨B, ds, d, e, hx, hf, k⟩
theorem cd_sum (R : Rm X) : CallR X (.builtin "sum") (rCD X fSum) := by
  rintro pins s σ H xs us Q I rs ⟨B, ds, d, e, hx, hf, k⟩
  unfold fSum at hf
  split at hf
  · next zs =>
    cases q : intsD zs with
    | none => rw [q] at hf; cases hf
    | some ns =>
      rw [q] at hf
      cases hf
      have ez := intsD_eq q
      subst ez
      obtain ⟨x, rfl, b, vs, rfl, hq, rr⟩ := vwl1 hx
      have ev := reps_ints rr
      subst ev
      exact cr_sum R.calm pins s σ H _ us Q I rs ⟨b, ns, rfl, hq, k B _ H (Gr.refl e) (.int _)⟩
  · cases hf
theorem reps_strs {K : PySem.W.Frag} {B : Hp} : ∀ ks : List Str, Reps K B (ks.map V.str) (ks.map D.str)
  | [] => .nil
  | k :: r => .cons (.str k) (reps_strs r)
theorem keys_inr : ∀ {ls : List Key} {ks : List Str}, ls.map kD = ks.map D.str → ls = ks.map Sum.inr
  | [], [], _ => rfl
  | [], _ :: _, h => by cases h
  | _ :: _, [], h => by cases h
  | l :: r, k :: q, h => by
    obtain ⟨h1, h2⟩ := List.cons.inj h
    cases l with
    | inl i => cases h1
    | inr x => cases h1; rw [List.map_cons, ← keys_inr h2]
theorem cd_sortA (R : Rm X) : CallR X (.builtin "sorted") (rCD X fSortA) := by
  rintro pins s σ H xs us Q I rs ⟨B, ds, d, e, hx, hf, k⟩
  unfold fSortA at hf
  split at hf
  · next es =>
    split at hf
    · next ks q =>
      split at hf
      · next hl =>
        cases hf
        have ez := strsD_eq q
        obtain ⟨x, rfl, hv⟩ := vwl1 hx
        have hk : es.all (fun e => isKD e.1) = true := List.all_eq_true.mpr fun p hp => by
          have : p.1 ∈ ks.map D.str := by rw [← ez]; exact List.mem_map_of_mem hp
          obtain ⟨y, _, hy⟩ := List.mem_map.mp this
          rw [← hy]; rfl
        obtain ⟨a, kvs, rfl, hd, r⟩ := vw_keys hv hk
        have ek : kvs.map (·.1) = ks.map Sum.inr := keys_inr ((repK_map r).2.symm.trans ez)
        refine call_sortedD R.calm pins s σ H _ us Q I rs ⟨a, kvs, ks, rfl, hd, ek, hl, fun ys p hp hs hn => ?_⟩
        have ey := sortS_of hp hs
        subst ey
        obtain ⟨g, rr⟩ := lay_lst e hn (reps_strs (K := X.K) (B := B) (sortS ks))
        exact k _ _ _ g rr
      · cases hf
    · cases hf
  · exact cd_sorted R pins s σ H xs us Q I rs ⟨B, ds, d, e, hx, hf, k⟩
end
end Dm
set_option maxHeartbeats 1000000
/-! Dm, part 50: dict(x) as a new handle. -/
namespace Dm
open PySem PySem.Spec PyProof.Rows L2
open Evl (Ex)
variable [Lams]
def pairsD : List D → Option (List (D × D))
  | [] => some []
  | .tup [a, b] :: r => (pairsD r).map ((a, b) :: ·)
  | _ => none
def fDictC : List D → Option Cell
  | [.dct es] => if es.all (fun e => isKD e.1) = true then some (.dct es) else none
  | [.lst ds] => (match pairsD ds with
    | some ps => if ps.all (fun e => isKD e.1) = true then some (.dct (dMerge ps)) else none
    | none => none)
  | _ => none
def CellO (K : PySem.W.Frag) (B : Hp) : Cell → HO → Prop
  | .dct es, o => ∃ kvs, o = .dK kvs ∧ RepK K B kvs es
  | _, _ => False
/-- a call of a built-in type that makes a new object -/
def rNw (X : Cx) (f : List D → Option Cell) : List V → Hp → VK → Prop := fun xs H Q => ∃ (B : Hp) (ds : List D) (c : Cell), Ex B H ∧ VwL X.K B H xs ds ∧ f ds = some c ∧ ∀ p o, H p = none → CellO X.K B c o → Q (.ref p) (upd H p o)
theorem pairs_of {K : PySem.W.Frag} {B : Hp} : ∀ {vs : List V} {ds : List D} {ps : List (D × D)}, Reps K B vs ds → pairsD ds = some ps → ∃ (as : List Addr) (xs : List (V × V)), vs = as.map V.ref ∧ RepP K B xs ps ∧ PySem.W.EachIs (fun p x => SqT K B p [x.1, x.2]) as xs := fun {vs ds ps} r h => by
  induction ds generalizing vs ps with
  | nil => cases h; cases r; exact ⟨[], [], rfl, .nil, .nil⟩
  | cons d t ih =>
    unfold pairsD at h
    split at h
    · next e => cases e
    · next a b r' e =>
      cases e
      cases q : pairsD t with
      | none => rw [q] at h; cases h
      | some z =>
        rw [q] at h; cases h
        cases r with
        | cons r1 rs =>
          obtain ⟨as, xs, e1, e2, e3⟩ := ih rs q
          cases r1 with
          | tup sq rr =>
            cases rr with
            | cons ra rr =>
              cases rr with
              | cons rb rr =>
                cases rr
                exact ⟨_ :: as, (_, _) :: xs, by rw [e1]; rfl, .cons ra rb e2, .cons sq e3⟩
    · cases h
theorem paired_of {K : PySem.W.Frag} {B H : Hp} (e : Ex B H) : ∀ {as : List Addr} {kvs : List (Key × V)}, PySem.W.EachIs (fun p (x : V × V) => SqT K B p [x.1, x.2]) as (kvs.map fun kv => (kV kv.1, kv.2)) → Paired (fun p (kv : Key × V) => SqT K H p [kV kv.1, kv.2]) as kvs
  | [], [], _ => .nil
  | _ :: _, [], h => by cases h
  | [], _ :: _, h => by cases h
  | a :: as, kv :: r, h => by
    cases h with
    | cons h1 h2 => exact .cons (Evl.ex_t e h1) (paired_of e h2)
section
variable {X : Cx}
theorem nw_dict (R : Rm X) : CallR X (.type "dict") (rNw X fDictC) := by
  rintro pins s σ H xs us Q I rs ⟨B, ds, c, e, hx, hf, k⟩
  unfold fDictC at hf
  split at hf
  · next es =>
    split at hf
    · next hk =>
      cases hf
      obtain ⟨x, rfl, hv⟩ := vwl1 hx
      obtain ⟨a, kvs, rfl, hd, r⟩ := vw_keys hv hk
      exact call_dictD pins s σ H _ us Q I rs ⟨a, kvs, rfl, hd, fun p hp => k p _ hp ⟨kvs, rfl, r⟩⟩
    · cases hf
  · next zs =>
    split at hf
    · next ps q =>
      split at hf
      · next hk =>
        cases hf
        obtain ⟨x, rfl, a, vs, rfl, sq, r⟩ := vwl1 hx
        obtain ⟨as, xs, rfl, e2, e3⟩ := pairs_of r q
        obtain ⟨kvs, rfl, _, e4⟩ := repP_keys e2 hk
        exact call_dictP R.calm pins s σ H _ us Q I rs ⟨a, as, kvs, rfl, sq, paired_of e e3, fun p hp => k p _ hp ⟨_, rfl, e4 [] [] .nil⟩⟩
      · cases hf
    · cases hf
  · cases hf
def mNw (f : List D → Option Cell) (ma : AM) : EM := fun ρ m => bnd (ma ρ m) fun ws m1 => match views m1 ws with
  | some ds => (match f ds with
    | some c => ret (.hdl m1.length) (m1 ++ [c])
    | none => none)
  | none => none
theorem nw_inv {f : List D → Option Cell} {ws : List W} {m1 m' : Mem} {o : Out W} (q : (match views m1 ws with
  | some ds => (match f ds with
    | some c => (ret (.hdl m1.length) (m1 ++ [c]) : Run W)
    | none => none)
  | none => none) = some (o, m')) : ∃ ds c, views m1 ws = some ds ∧ f ds = some c ∧ o = .ok (.hdl m1.length) ∧ m' = m1 ++ [c] := by
  split at q
  · next ds h =>
    split at q
    · next c h2 => cases q; exact ⟨ds, c, h, h2, rfl, rfl⟩
    · cases q
  · cases q
theorem se_nwTy {x : Str} {p pos : Pos} {T : String} {f : List D → Option Cell} {e : Expr} {es : List Expr} {ma : AM} (hc : CallR X (.type T) (rNw X f)) (hg : Gl X x) (hm : X.mg x = none) (hv : bootBuiltins x = some (.type T)) (ha : SA X (e :: es) ma)
    (h0 : noStar e = true := by rfl) (h1 : es.all noStar = true := by rfl) (hn : x ≠ "__name__" := by decide) (hdb : (x == ("__debug__" : Str)) = false := by decide) : SE X (.Call (.Name x p) (e :: es) [] pos) (mNw f ma) := by
  refine ⟨fun ρ m o m' q => bnd_len q (ha.len ρ m) fun x m1 q1 => ?_, fun ρ m o m' q B al σ H Q wd rs h pins s I => (pe_callTy hc hg hm hv pa_w hn hdb (starEach_cons h0) (star_any h1)).run pins s σ H Q I ?_⟩
  · obtain ⟨_, _, _, _, _, rfl⟩ := nw_inv q1
    rw [List.length_append]; omega
  · refine ha.seq q wd rs h.res fun ws m1 q1 l1 B1 al1 vs1 H1 e1 g1 wd1 r1 => ?_
    obtain ⟨ds, c, hv, hf, rfl, rfl⟩ := nw_inv q1
    refine ⟨B1, ds, c, wd1.ext, wd1.views r1 hv, hf, fun p o hp hc => ?_⟩
    obtain ⟨w2, a2⟩ := wd1.alloc (o := o) (c := c) hp (by
      cases c with
      | dct es => obtain ⟨kvs, rfl, r⟩ := hc; exact .inl ⟨kvs, upd_same, r⟩
      | _ => exact hc.elim)
    exact h B1 _ _ _ e1 (g1.trans a2 l1) w2 ⟨by rw [alx_here], by simp⟩
end
end Dm
set_option maxHeartbeats 1000000
/-! Dm, part 51: comprehensions of two clauses. -/
namespace Dm
open PySem PySem.Spec PyProof.Rows L2
open Evl (Ex)
variable [Lams]
section
variable {X : Cx} {tg iter elt : Expr} {mi : IM} {t : CT} {tt : TM} {te : EM} {ifs : List Expr}
/-- the word of the turns, begun with a0 items -/
def LcX (X : Cx) (B0 : Hp) (al0 : Pl) (n0 : Nat) (σ : L2.St) (t : CT) (tt : TM) (te : EM) (ds : List D) (ρ : Slots) (vs : List Nat) (Dl : Addr) (ys : List D) (m' : Mem) (a0 : Nat) : Nat → Nat → Hp → Prop := fun i k H =>
  k + i = ds.length ∧ ∃ B al m acc us, Ex B0 B ∧ Agr n0 al0 al ∧ m.length = n0 ∧ Wd X.K B al m H ∧ B Dl = none ∧ (∀ j c, m[j]? = some c → c.isDead = false → al j ≠ Dl) ∧ H Dl = some (.lst us) ∧ Reps X.K B us acc ∧ acc.length ≤ a0 + i ∧ RepS X.K B al n0 (wipe σ vs) (wipeS ρ vs) ∧ lcL t tt te (ds.drop i) (wipeS ρ vs) m acc = some (ys, m')
theorem lc_steps {vs : List Nat} (ho : t.ok vs = true) {B1 : Hp} {al1 : Pl} {J : It} {ds zs : List D} {n0 a0 : Nat} {σ : L2.St} {ρ : Slots} {m' : Mem} {Dl : Addr} (ys : Yields X.K B1 J ds) (hF1 : al1.fr Dl = none) (hlim : a0 + ds.length < LIM)
    {tu : TT} {tv : TE} (htu : ∀ (ρ1 : Slots) (m1 : Mem) (b : Bool) (m2 : Mem), tt ρ1 m1 = some (.ok b, m2) → ∀ B al σ H Q, Wd X.K B al m1 H → RepS X.K B al m1.length σ ρ1 → (∀ B' al' H', Ex B B' → Agr m1.length al al' → Wd X.K B' al' m2 H' → Q b H') → tu σ H Q)
    (htv : ∀ (ρ1 : Slots) (m1 : Mem) (w : W) (m2 : Mem), te ρ1 m1 = some (.ok w, m2) → ∀ B al σ H Q, Wd X.K B al m1 H → RepS X.K B al m1.length σ ρ1 → AnsW X.K B al m1.length w m2 Q → tv σ H Q)
    (ltt : ∀ ρ m o m', tt ρ m = some (o, m') → m.length ≤ m'.length) (lte : ∀ ρ m o m', te ρ m = some (o, m') → m.length ≤ m'.length)
    {i k : Nat} {H2 : Hp} (w : LcX X B1 al1 n0 σ t tt te ds ρ vs Dl zs m' a0 i k H2) {R : Hp → Prop}
    (fin : ∀ B al us H, Ex B1 B → Agr n0 al1 al → m'.length = n0 → Wd X.K B al m' H → B Dl = none → (∀ j c, m'[j]? = some c → c.isDead = false → al j ≠ Dl) → H Dl = some (.lst us) → Reps X.K B us zs → R H) :
    (J.stop i H2 ∧ R H2) ∨ (J.go i H2 ∧ ∃ Nx : Hp → Prop, (∀ H', Nx H' → ∃ k', k' < k ∧ LcX X B1 al1 n0 σ t tt te ds ρ vs Dl zs m' a0 (i + 1) k' H') ∧ ∀ x H', J.yld i H2 x H' → t.g X.K x (wipe σ vs) H' fun σ2 H2 => wipe σ2 vs = wipe σ vs ∧ tu σ2 H2 fun b H3 =>
      if b = true then tv σ2 H3 fun y H4 => ∃ acc, H4 Dl = some (.lst acc) ∧ acc.length < sizeLine ∧ Nx (upd H4 Dl (.lst (acc ++ [y]))) else Nx H3) := by
  obtain ⟨hk, B2, al2, m2, acc, us, x2, g2, l2, wd2, b2, nh2, hl2, ra, la, rs2, q2⟩ := w
  have hF2 : al2.fr Dl = none := by rw [g2.fr]; exact hF1
  obtain ⟨yg, ye⟩ := ys i B2 H2 x2 wd2.ext
  cases hd : ds[i]? with
  | none =>
    have hl : ds.length ≤ i := List.getElem?_eq_none_iff.mp hd
    rw [List.drop_eq_nil_of_le hl] at q2
    cases q2
    refine .inl ⟨ye hl, ?_⟩
    exact fin B2 al2 us H2 x2 g2 l2 wd2 b2 nh2 hl2 ra
  | some d =>
    have hi' : i < ds.length := (List.getElem?_eq_some_iff.mp hd).1
    have ed : ds.drop i = d :: ds.drop (i + 1) := by
      rw [List.drop_eq_getElem_cons hi']
      congr 1
      exact (List.getElem?_eq_some_iff.mp hd).2
    rw [ed] at q2
    obtain ⟨jg, jy⟩ := yg d hd
    refine .inr ⟨jg, fun H' => ∃ k', k' < k ∧ LcX X B1 al1 n0 σ t tt te ds ρ vs Dl zs m' a0 (i + 1) k' H', fun H' z => z, fun x H3 y => ?_⟩
    obtain ⟨B3, g3, r3⟩ := jy x H3 y
    have wd3 := wd2.grow g3
    have hl3 : H3 Dl = some (.lst us) := g3.h _ _ hl2
    have b3 : B3 Dl = none := g3.new Dl (by rw [hl2]; simp) b2
    have rs3 := rs2.mono g3.b Agr.refl (Nat.le_refl _)
    have wdh := wd3.hide hl3 b3 nh2
    unfold lcL at q2
    split at q2
    · cases q2
    · next ρ1 eT =>
      refine ct_run ho eT wd3.ext r3 rs3 fun σ4 rs4 hw => ⟨hw, ?_⟩
      have rs4' : RepS X.K B3 (al2.hide Dl (.lst us)) m2.length σ4 ρ1 := by rw [l2]; exact rs4
      split at q2
      · next m4 e4 =>
        refine htu ρ1 m2 false m4 e4 B3 _ σ4 H3 _ wdh rs4' fun B4 al4 H4 x4 g4 wd4 => ?_
        rw [if_neg Bool.false_ne_true]
        obtain ⟨w5, b5, h5, n5⟩ := wd4.unhide (o' := .lst us) g4.fr hF2
        have same : upd H4 Dl (.lst us) = H4 := by
          funext a
          by_cases z : a = Dl
          · subst z; rw [upd_same]; exact h5.symm
          · rw [upd_ne z]
        rw [same] at w5
        have xx := (x2.trans g3.b).trans x4
        have l4 := ltt _ _ _ _ e4
        have gg : Agr n0 al1 ⟨al4.at_, al2.fr⟩ := ⟨fun j hj => (g4.at_ j (by omega)).trans (g2.at_ j hj), g2.fr⟩
        refine ⟨ds.length - (i + 1), by omega, by omega, B4, ⟨al4.at_, al2.fr⟩, _, acc, us, xx, gg, by rw [List.length_take]; omega, w5.take _, b5, fun j c e hd => n5 j c (by rw [List.getElem?_take] at e; split at e; exact e; cases e) hd, h5, ra.mono (g3.b.trans x4), by omega, ?_, q2⟩
        exact RepS.mono (al := al2) (al' := ⟨al4.at_, al2.fr⟩) x4 ⟨fun j hj => g4.at_ j (by omega), rfl⟩ (Nat.le_refl _) rs3
      · next m4 e4 =>
        split at q2
        · next y m5 e5 =>
          refine htu ρ1 m2 true m4 e4 B3 _ σ4 H3 _ wdh rs4' fun B4 al4 H4 x4 g4 wd4 => ?_
          rw [if_pos rfl]
          have l4 := ltt _ _ _ _ e4
          refine htv ρ1 m4 (.dat y) m5 e5 B4 al4 σ4 H4 _ wd4 (rs4'.mono x4 g4 l4) fun B5 al5 v5 H5 x5 g5 wd5 r5 => ?_
          have l5 := lte _ _ _ _ e5
          have ff : al5.fr = (al2.hide Dl (.lst us)).fr := g5.fr.trans g4.fr
          obtain ⟨w6, b6, h6, n6⟩ := wd5.unhide (o' := .lst (us ++ [v5])) ff hF2
          have xx := ((x2.trans g3.b).trans x4).trans x5
          have gg : Agr n0 al1 ⟨al5.at_, al2.fr⟩ := ⟨fun j hj => (g5.at_ j (by omega)).trans ((g4.at_ j (by omega)).trans (g2.at_ j hj)), g2.fr⟩
          have hlen : us.length < sizeLine := by
            rw [ra.length]
            exact lim_lt (by omega)
          refine ⟨us, h6, hlen, ds.length - (i + 1), by omega, by omega, B5, ⟨al5.at_, al2.fr⟩, _, acc ++ [y], us ++ [v5], xx, gg, by rw [List.length_take]; omega, w6.take _, b6, fun j c e hd => n6 j c (by rw [List.getElem?_take] at e; split at e; exact e; cases e) hd, upd_same, ?_, by rw [List.length_append, List.length_singleton]; omega, ?_, q2⟩
          · exact (ra.mono ((g3.b.trans x4).trans x5)).append (.cons r5 .nil)
          · exact RepS.mono (al := al2) (al' := ⟨al5.at_, al2.fr⟩) (x4.trans x5) ⟨fun j hj => (g5.at_ j (by omega)).trans (g4.at_ j (by omega)), rfl⟩ (Nat.le_refl _) rs3
        · cases q2
      · cases q2
/-! ### two clauses -/
def lc2L (t : CT) (tt : TM) (mi1 : IM) (t1 : CT) (tt1 : TM) (te : EM) (vs1 : List Nat) : List D → Slots → Mem → List D → Option (List D × Mem)
  | [], _, m, acc => some (acc, m)
  | d :: r, ρ, m, acc => match t.take d ρ with
    | none => none
    | some ρ1 => (match tt ρ1 m with
      | some (.ok false, m1) => lc2L t tt mi1 t1 tt1 te vs1 r ρ (m1.take m.length) acc
      | some (.ok true, m1) => (match mi1 ρ1 m1 with
        | some (.ok ds1, m2) => if acc.length + ds1.length < LIM then (match lcL t1 tt1 te ds1 (wipeS ρ1 vs1) m2 acc with
          | some (ys, m3) => lc2L t tt mi1 t1 tt1 te vs1 r ρ (m3.take m.length) ys
          | none => none) else none
        | _ => none)
      | _ => none)
def mLc2 (mi : IM) (t : CT) (tt : TM) (mi1 : IM) (t1 : CT) (tt1 : TM) (te : EM) (vs vs1 : List Nat) : EM := fun ρ m => bnd (mi ρ m) fun ds m1 => match lc2L t tt mi1 t1 tt1 te vs1 ds (wipeS ρ vs) m1 [] with
  | some (ys, m2) => rd (.lst ys) m2
  | none => none
theorem mLc2_cases {x : Option (List D × Mem)} {m' : Mem} {o : Out W} (q : (match x with
  | some (ys, m2) => rd (.lst ys) m2
  | none => (none : Run W)) = some (o, m')) : ∃ ys, x = some (ys, m') ∧ o = .ok (.dat (.lst ys)) := by
  split at q
  · next ys m2 => cases q; exact ⟨ys, rfl, rfl⟩
  · cases q
variable {tg1 iter1 : Expr} {mi1 : IM} {t1 : CT} {tt1 : TM} {ifs1 : List Expr} {vs1 : List Nat}
theorem lc2L_len (ht : ∀ ρ m o m', tt ρ m = some (o, m') → m.length ≤ m'.length) (hi : ∀ ρ m o m', mi1 ρ m = some (o, m') → m.length ≤ m'.length) (ht1 : ∀ ρ m o m', tt1 ρ m = some (o, m') → m.length ≤ m'.length) (he : ∀ ρ m o m', te ρ m = some (o, m') → m.length ≤ m'.length) :
    ∀ (ds : List D) (ρ : Slots) (m : Mem) (acc ys : List D) (m' : Mem), lc2L t tt mi1 t1 tt1 te vs1 ds ρ m acc = some (ys, m') → m'.length = m.length
  | [], ρ, m, acc, ys, m', q => by cases q; rfl
  | d :: r, ρ, m, acc, ys, m', q => by
    unfold lc2L at q
    split at q
    · cases q
    · next ρ1 e =>
      split at q
      · next m1 e1 =>
        have l1 := ht _ _ _ _ e1
        rw [lc2L_len ht hi ht1 he r _ _ _ _ _ q, List.length_take]; omega
      · next m1 e1 =>
        have l1 := ht _ _ _ _ e1
        split at q
        · next ds1 m2 e2 =>
          have l2 := hi _ _ _ _ e2
          split at q
          · split at q
            · next ys1 m3 e3 =>
              have l3 := lcL_len ht1 he _ _ _ _ _ _ e3
              rw [lc2L_len ht hi ht1 he r _ _ _ _ _ q, List.length_take]; omega
            · cases q
          · cases q
        · cases q
      · cases q
def Lc2W (X : Cx) (B0 : Hp) (al0 : Pl) (n0 : Nat) (σ : L2.St) (f : List D → Slots → Mem → List D → Option (List D × Mem)) (ds : List D) (ρ : Slots) (vs : List Nat) (Dl : Addr) (ys : List D) (m' : Mem) : Nat → Nat → Hp → Prop := fun i k H =>
  k + i = ds.length ∧ ∃ B al m acc us, Ex B0 B ∧ Agr n0 al0 al ∧ m.length = n0 ∧ Wd X.K B al m H ∧ B Dl = none ∧ (∀ j c, m[j]? = some c → c.isDead = false → al j ≠ Dl) ∧ H Dl = some (.lst us) ∧ Reps X.K B us acc ∧ RepS X.K B al n0 (wipe σ vs) (wipeS ρ vs) ∧ f (ds.drop i) (wipeS ρ vs) m acc = some (ys, m')
theorem lc2_run {vs : List Nat} (ho : t.ok vs = true) (ho1 : t1.ok vs1 = true) (hi : SI X tg iter mi) {ρ : Slots} {m m' : Mem} {o : Out W} (q : mLc2 mi t tt mi1 t1 tt1 te vs vs1 ρ m = some (o, m')) {B : Hp} {al : Pl} {σ : L2.St} {H : Hp} {Q : VK} (wd : Wd X.K B al m H) (rs : RepS X.K B al m.length σ ρ) (h : AnsE X B al m.length σ Q m' o)
    {tu tu1 : TT} {tv : TE} {wi1 : TI} (htu : ∀ (ρ1 : Slots) (m1 : Mem) (b : Bool) (m2 : Mem), tt ρ1 m1 = some (.ok b, m2) → ∀ B al σ H Q, Wd X.K B al m1 H → RepS X.K B al m1.length σ ρ1 → (∀ B' al' H', Ex B B' → Agr m1.length al al' → Wd X.K B' al' m2 H' → Q b H') → tu σ H Q)
    (htu1 : ∀ (ρ1 : Slots) (m1 : Mem) (b : Bool) (m2 : Mem), tt1 ρ1 m1 = some (.ok b, m2) → ∀ B al σ H Q, Wd X.K B al m1 H → RepS X.K B al m1.length σ ρ1 → (∀ B' al' H', Ex B B' → Agr m1.length al al' → Wd X.K B' al' m2 H' → Q b H') → tu1 σ H Q)
    (htv : ∀ (ρ1 : Slots) (m1 : Mem) (w : W) (m2 : Mem), te ρ1 m1 = some (.ok w, m2) → ∀ B al σ H Q, Wd X.K B al m1 H → RepS X.K B al m1.length σ ρ1 → AnsW X.K B al m1.length w m2 Q → tv σ H Q)
    (hwi : ∀ (ρ1 : Slots) (m1 : Mem) (ds1 : List D) (m2 : Mem), mi1 ρ1 m1 = some (.ok ds1, m2) → ∀ B al σ H R, Wd X.K B al m1 H → RepS X.K B al m1.length σ ρ1 → (∀ B' al' J H', Ex B B' → Agr m1.length al al' → Wd X.K B' al' m2 H' → Yields X.K B' J ds1 → R J H') → wi1 σ H R)
    (ltt : ∀ ρ m o m', tt ρ m = some (o, m') → m.length ≤ m'.length) (lti : ∀ ρ m o m', mi1 ρ m = some (o, m') → m.length ≤ m'.length) (ltt1 : ∀ ρ m o m', tt1 ρ m = some (o, m') → m.length ≤ m'.length) (lte : ∀ ρ m o m', te ρ m = some (o, m') → m.length ≤ m'.length) :
    tLc2 (wI X tg iter) (t.g X.K) tu wi1 (t1.g X.K) tu1 tv vs vs1 σ H Q := by
  rcases bnd_cases q with ⟨ds, m1, e1, q1⟩ | ⟨c, fs, e1, rfl⟩
  rotate_left
  · exact hi.run _ _ _ _ e1 B al σ H _ wd rs h
  refine hi.run _ _ _ _ e1 B al σ H _ wd rs fun B1 al1 J H1 x1 g1 wd1 ys => ?_
  have l1 := hi.len _ _ _ _ e1
  obtain ⟨zs, qz, rfl⟩ := mLc2_cases q1
  intro Dl hD
  have gl := Gr.by wd1.ext (o := .lst []) hD
  have wdl := wd1.grow gl
  have hB1 : B1 Dl = none := by
    cases z : B1 Dl with
    | none => rfl
    | some u => rw [wd1.ext _ u z] at hD; cases hD
  have hF1 : al1.fr Dl = none := by
    cases z : al1.fr Dl with
    | none => rfl
    | some u => rw [wd1.fx _ u z] at hD; cases hD
  refine ⟨Lc2W X B1 al1 m1.length σ (lc2L t tt mi1 t1 tt1 te vs1) ds ρ vs Dl zs m', ⟨ds.length, by simp, B1, al1, m1, [], [], Ex.refl _, Agr.refl, rfl, wdl, hB1, fun j c e hd => wd1.notNew hD e hd, upd_same, .nil, repS_wipes (rs.mono x1 g1 l1) vs, qz⟩, ?_⟩
  rintro i k H2 ⟨hk, B2, al2, m2, acc, us, x2, g2, l2, wd2, b2, nh2, hl2, ra, rs2, q2⟩
  have hF2 : al2.fr Dl = none := by rw [g2.fr]; exact hF1
  obtain ⟨yg, ye⟩ := ys i B2 H2 x2 wd2.ext
  cases hd : ds[i]? with
  | none =>
    have hl : ds.length ≤ i := List.getElem?_eq_none_iff.mp hd
    rw [List.drop_eq_nil_of_le hl] at q2
    cases q2
    refine .inl ⟨ye hl, ?_⟩
    obtain ⟨wd3, exB⟩ := wd2.freeze hl2 b2 hF2 nh2
    exact h _ al2 _ H2 ((x1.trans x2).trans exB) (g1.trans g2 l1) wd3 (.lst (.inl (.inl upd_same)) (ra.mono exB))
  | some d =>
    have hi' : i < ds.length := (List.getElem?_eq_some_iff.mp hd).1
    have ed : ds.drop i = d :: ds.drop (i + 1) := by
      rw [List.drop_eq_getElem_cons hi']
      congr 1
      exact (List.getElem?_eq_some_iff.mp hd).2
    rw [ed] at q2
    obtain ⟨jg, jy⟩ := yg d hd
    refine .inr ⟨jg, fun H' => ∃ k', k' < k ∧ Lc2W X B1 al1 m1.length σ (lc2L t tt mi1 t1 tt1 te vs1) ds ρ vs Dl zs m' (i + 1) k' H', fun H' z => z, fun x H3 y => ?_⟩
    obtain ⟨B3, g3, r3⟩ := jy x H3 y
    have wd3 := wd2.grow g3
    have hl3 : H3 Dl = some (.lst us) := g3.h _ _ hl2
    have b3 : B3 Dl = none := g3.new Dl (by rw [hl2]; simp) b2
    have rs3 := rs2.mono g3.b Agr.refl (Nat.le_refl _)
    have wdh := wd3.hide hl3 b3 nh2
    unfold lc2L at q2
    split at q2
    · cases q2
    · next ρ1 eT =>
      refine ct_run ho eT wd3.ext r3 rs3 fun σ4 rs4 hw => ⟨hw, ?_⟩
      have rs4' : RepS X.K B3 (al2.hide Dl (.lst us)) m2.length σ4 ρ1 := by rw [l2]; exact rs4
      split at q2
      · next m4 e4 =>
        refine htu ρ1 m2 false m4 e4 B3 _ σ4 H3 _ wdh rs4' fun B4 al4 H4 x4 g4 wd4 => ?_
        rw [if_neg Bool.false_ne_true]
        obtain ⟨w5, b5, h5, n5⟩ := wd4.unhide (o' := .lst us) g4.fr hF2
        rw [upd_self h5] at w5
        have xx := (x2.trans g3.b).trans x4
        have l4 := ltt _ _ _ _ e4
        have gg : Agr m1.length al1 ⟨al4.at_, al2.fr⟩ := ⟨fun j hj => (g4.at_ j (by omega)).trans (g2.at_ j hj), g2.fr⟩
        refine ⟨ds.length - (i + 1), by omega, by omega, B4, ⟨al4.at_, al2.fr⟩, _, acc, us, xx, gg, by rw [List.length_take]; omega, w5.take _, b5, fun j c e hd => n5 j c (by rw [List.getElem?_take] at e; split at e; exact e; cases e) hd, h5, ra.mono (g3.b.trans x4), ?_, q2⟩
        exact RepS.mono (al := al2) (al' := ⟨al4.at_, al2.fr⟩) x4 ⟨fun j hj => g4.at_ j (by omega), rfl⟩ (Nat.le_refl _) rs3
      · next m4 e4 =>
        split at q2
        · next ds1 m5 e5 =>
          split at q2
          · next hlim =>
            split at q2
            · next ys1 m6 e6 =>
              refine htu ρ1 m2 true m4 e4 B3 _ σ4 H3 _ wdh rs4' fun B4 al4 H4 x4 g4 wd4 => ?_
              rw [if_pos rfl]
              have l4 := ltt _ _ _ _ e4
              refine hwi ρ1 m4 ds1 m5 e5 B4 al4 σ4 H4 _ wd4 (rs4'.mono x4 g4 l4) fun B5 al5 J5 H5 x5 g5 wd5 ys5 => ?_
              have l5 := lti _ _ _ _ e5
              have ff : al5.fr = (al2.hide Dl (.lst us)).fr := g5.fr.trans g4.fr
              obtain ⟨w6, b6, h6, n6⟩ := wd5.unhide (o' := .lst us) ff hF2
              rw [upd_self h6] at w6
              have rr6 := ra.mono ((g3.b.trans x4).trans x5)
              have rs5 : RepS X.K B3 al2 m2.length σ4 ρ1 := RepS.mono (al := al2.hide Dl (.lst us)) (al' := ⟨(al2.hide Dl (.lst us)).at_, (al2.hide Dl (.lst us)).fr⟩) (Ex.refl B3) ⟨fun _ _ => rfl, rfl⟩ (Nat.le_refl _) rs4' |> fun z => ⟨z.1, fun i w hw => let ⟨v, h1, h2⟩ := z.2 i w hw; ⟨v, h1, by cases w with | dat d => exact h2 | hdl k => exact h2 | clo i ds => exact h2⟩⟩
              have rs6 : RepS X.K B5 ⟨al5.at_, al2.fr⟩ m5.length σ4 ρ1 := RepS.mono (al := al2) (al' := ⟨al5.at_, al2.fr⟩) (x4.trans x5) ⟨fun j hj => (g5.at_ j (by omega)).trans (g4.at_ j (by omega)), rfl⟩ (by omega) rs5
              refine ⟨LcX X B5 ⟨al5.at_, al2.fr⟩ m5.length σ4 t1 tt1 te ds1 ρ1 vs1 Dl ys1 m6 acc.length, ⟨ds1.length, by simp, B5, ⟨al5.at_, al2.fr⟩, m5, acc, us, Ex.refl _, Agr.refl, rfl, w6, b6, n6, h6, rr6, by omega, repS_wipes rs6 vs1, e6⟩, ?_⟩
              intro j k1 H7 w7
              refine lc_steps (R := fun H' => ∃ k', k' < k ∧ Lc2W X B1 al1 m1.length σ (lc2L t tt mi1 t1 tt1 te vs1) ds ρ vs Dl zs m' (i + 1) k' H') ho1 (al1 := ⟨al5.at_, al2.fr⟩) ys5 hF2 hlim htu1 htv ltt1 lte w7 fun B8 al8 us8 H8 x8 g8 l8 wd8 b8 n8 h8 r8 => ?_
              have xx := (((x2.trans g3.b).trans x4).trans x5).trans x8
              have gg : Agr m1.length al1 al8 := ⟨fun j hj => (g8.at_ j (by omega)).trans ((g5.at_ j (by omega)).trans ((g4.at_ j (by omega)).trans (g2.at_ j hj))), g8.fr.trans g2.fr⟩
              refine ⟨ds.length - (i + 1), by omega, by omega, B8, al8, _, ys1, us8, xx, gg, by rw [List.length_take]; omega, wd8.take _, b8, fun j c e hd => n8 j c (by rw [List.getElem?_take] at e; split at e; exact e; cases e) hd, h8, r8, ?_, q2⟩
              exact RepS.mono (al := al2) (al' := al8) ((x4.trans x5).trans x8) ⟨fun j hj => (g8.at_ j (by omega)).trans ((g5.at_ j (by omega)).trans (g4.at_ j (by omega))), g8.fr⟩ (Nat.le_refl _) rs3
            · cases q2
          · cases q2
        · cases q2
      · cases q2
/-- the inner source, in the block -/
def uI (X : Cx) (scope : Scope) (tg iter : Expr) : TI := fun σ H R => ∀ (s : Shared) (H0 : Hp) (C : Addr) (cl : List (Str × Addr)) (fp : List Addr), wI (X.blk s H0 scope (compEnvC scope cl C X.env) fp) tg iter σ H R
theorem uI_ok {scope : Scope} (s : Shared) (H0 : Hp) (C : Addr) (cl : List (Str × Addr)) (fp : List Addr) : PI (X.blk s H0 scope (compEnvC scope cl C X.env) fp) tg1 iter1 (uI X scope tg1 iter1) := ⟨fun pins s1 σ H Q I h => h s H0 C cl fp pins s1 I⟩
variable {scope : Scope} {own : List (Str × Nat)} {pos : Pos}
theorem se_lc2 (hc : X.calm = true) (hN : X.N.Nodup) (hi : SI X tg iter mi) (ok : BlkOk X.N X.env.scope scope own) (hv : ∀ i ∈ vs1, i ∈ own.map (·.2)) (hg : ∀ (s : Shared) (H : Hp) (C : Addr) (cl : List (Str × Addr)) (fp : List Addr), PG (X.blk s H scope (compEnvC scope cl C X.env) fp) tg (t.g X.K))
    (hg1 : ∀ (s : Shared) (H : Hp) (C : Addr) (cl : List (Str × Addr)) (fp : List Addr), PG (X.blk s H scope (compEnvC scope cl C X.env) fp) tg1 (t1.g X.K)) (hi1 : ∀ (s : Shared) (H : Hp) (C : Addr) (cl : List (Str × Addr)) (fp : List Addr), SI (X.blk s H scope (compEnvC scope cl C X.env) fp) tg1 iter1 mi1)
    (b : ∀ (s : Shared) (H : Hp) (C : Addr) (cl : List (Str × Addr)) (fp : List Addr), STs (X.blk s H scope (compEnvC scope cl C X.env) fp) ifs tt) (b1 : Blk X scope ifs1 elt tt1 te) (ho : t.ok (own.map (·.2)) = true) (ho1 : t1.ok vs1 = true)
    (hs : ∀ x, foldedSetIterable iter X.env x = pure x) (hs1 : ∀ env x, foldedSetIterable iter1 env x = pure x) : SE X (.ListComp elt [⟨tg, iter, ifs, 0⟩, ⟨tg1, iter1, ifs1, 0⟩] scope pos) (mLc2 mi t tt mi1 t1 tt1 te (own.map (·.2)) vs1) := by
  have ltt := (b ⟨{}, #[], {}, 1, {}⟩ (fun _ => none) 0 [] []).len
  have lti := (hi1 ⟨{}, #[], {}, 1, {}⟩ (fun _ => none) 0 [] []).len
  refine ⟨fun ρ m o m' q => bnd_len q (hi.len ρ m) fun ds m1 q1 => ?_, fun ρ m o m' q B al σ H Q wd rs h pins s I => (pe_lc2 hc hN pi_w ok hv hg uT_ok uI_ok hg1 uT_ok uE_ok hs hs1).run pins s σ H Q I
    (lc2_run ho ho1 hi q wd rs h (fun ρ1 m1 b1 m2 e B al σ H Q wd rs hq s H0 C cl fp => (b s H0 C cl fp).run _ _ _ _ e B al σ H Q wd rs hq) (fun ρ1 m1 bb m2 e B al σ H Q wd rs hq s H0 C cl fp => (b1.t s H0 C cl fp).run _ _ _ _ e B al σ H Q wd rs hq)
      (fun ρ1 m1 w m2 e B al σ H Q wd rs hq s H0 C cl fp => (b1.e s H0 C cl fp).run _ _ _ _ e B al σ H Q wd rs hq) (fun ρ1 m1 ds1 m2 e B al σ H R wd rs hq s H0 C cl fp => (hi1 s H0 C cl fp).run _ _ _ _ e B al σ H R wd rs hq) ltt lti b1.lens.1 b1.lens.2)⟩
  obtain ⟨zs, qz, _⟩ := mLc2_cases q1
  exact Nat.le_of_eq (lc2L_len ltt lti b1.lens.1 b1.lens.2 _ _ _ _ _ _ qz).symm
end
end Dm
set_option maxHeartbeats 1000000
/-! Dm, part 52: the walk's short words for objects, two clauses, nested targets. -/
namespace Dm
open PySem PySem.Spec PyProof.Rows L2
open Evl (Ex)
variable [Lams]
section
variable {fa : List He.Fa} {fn : List He.DefD} {K : PySem.W.Frag} {mg : Str → Option Value} {bs : Heap}
theorem Tx.cls (T : Tx fa fn K mg bs) (i : Nat) {c : Str} (h : fa[i]? = some (.cls c)) : Cls K (He.ga K c) := He.cls_ok (T.says.fact i h)
theorem Tx.noat (T : Tx fa fn K mg bs) (i : Nat) {c f : Str} (h : fa[i]? = some (.noat c f)) : NoAttr K (He.ga K c) f := He.noat_ok (T.says.fact i h)
theorem Tx.meth (T : Tx fa fn K mg bs) (i : Nat) {c f : Str} (h : fa[i]? = some (.meth c f)) : Meth K (He.ga K c) f (He.ma K (He.ga K c) f) := He.meth_ok (T.says.fact i h)
theorem Tx.mkr (T : Tx fa fn K mg bs) (i : Nat) {c : Str} (h : fa[i]? = some (.mkr c)) : Mk K (He.ga K c) (He.ma K (He.ga K c) "__init__") := He.mkr_ok (T.says.fact i h)
end
abbrev idW : List W → List W → List W := fun ws _ => ws
/-- a method's promise -/
abbrev MethOk (P : Program) (w : World) (K : PySem.W.Frag) (mg : Str → Option Value) (bs : Heap) (c m0 : Str) (j : Nat) (ps : List Str) (mf : FM) : Prop := DefA P w K mg bs (He.ma K (He.ga K c) m0) j ps mf ps.length [] idW
abbrev MethKw (P : Program) (w : World) (K : PySem.W.Frag) (mg : Str → Option Value) (bs : Heap) (c m0 : Str) (j : Nat) (ps : List Str) (mf : FM) (n : Nat) (ks : List Str) (gW : List W → List W → List W) : Prop := DefA P w K mg bs (He.ma K (He.ga K c) m0) j ps mf n ks gW
abbrev PropOk (P : Program) (w : World) (K : PySem.W.Frag) (mg : Str → Option Value) (bs : Heap) (c f : Str) (j : Nat) (ps : List Str) (mf : FM) : Prop := DefA P w K mg bs (pgA K c f) j ps mf 1 [] idW
section
variable {X : Cx} {N : List Str} {sc : Scope} {k : Nat} {fn : Str → Bool} {a b : Expr} {ma mb : EM} {c m0 : Str} {j n : Nat} {ps ks : List Str} {mf : FM} {gW : List W → List W → List W} {pos apos p : Pos}
theorem Good.getO (g : Good X N sc k fn) (M : OwnM X.K c "__getitem__") (hfn : PySem.W.fnIn X.K (He.ma X.K (He.ga X.K c) "__getitem__") = true) (F : DefA X.prog X.w X.K X.mg X.base (He.ma X.K (He.ga X.K c) "__getitem__") j ps mf 2 [] idW) (hj : Nat.ble (j + 1) k = true) (ha : SE X a ma) (hb : SE X b mb)
    (hsl : ∀ x i : Value, subscripted b true x i = runValue (.builtin "lifetime.subscript" ⟨[x, i], []⟩) := by intro x i; with_unfolding_all rfl) : SE X (.Subscript a b pos) (mOwn2 false c (fun _ => true) mf id ma mb) :=
  se_getO M hfn F (g.room.mono (Nat.le_of_ble_eq_true hj)) g.gd ha hb hsl
theorem Good.inO (g : Good X N sc k fn) (M : OwnM X.K c "__contains__") (F : DefA X.prog X.w X.K X.mg X.base (He.ma X.K (He.ga X.K c) "__contains__") j ps mf 2 [] idW) (hj : Nat.ble j k = true) (ha : SE X a ma) (hb : SE X b mb)
    (hm : behindInMarks .In b = false) : SE X (.Compare a [.In] [b] pos) (mOwn2 true c (fun _ => true) mf (mapB id) ma mb) := se_inO M F (g.room.mono (Nat.le_of_ble_eq_true hj)) g.gd ha hb hm
theorem Good.notInO (g : Good X N sc k fn) (M : OwnM X.K c "__contains__") (F : DefA X.prog X.w X.K X.mg X.base (He.ma X.K (He.ga X.K c) "__contains__") j ps mf 2 [] idW) (hj : Nat.ble j k = true) (ha : SE X a ma) (hb : SE X b mb)
    (hm : behindInMarks .NotIn b = false) : SE X (.Compare a [.NotIn] [b] pos) (mOwn2 true c (fun _ => true) mf (mapB not) ma mb) := se_notInO M F (g.room.mono (Nat.le_of_ble_eq_true hj)) g.gd ha hb hm
theorem Good.eqO (g : Good X N sc k fn) {owns : List Str} (T : ownB owns X.K = true) (hc : c ∈ owns) (M : OwnM X.K c "__eq__") (F : DefA X.prog X.w X.K X.mg X.base (He.ma X.K (He.ga X.K c) "__eq__") j ps mf 2 [] idW) (hj : Nat.ble j k = true) (ha : SE X a ma) (hb : SE X b mb)
    (hm : behindInMarks .Eq b = false) : SE X (.Compare a [.Eq] [b] pos) (mOwn2 false c (tyO owns) mf (mapB id) ma mb) := se_eqO T hc M F (g.room.mono (Nat.le_of_ble_eq_true hj)) g.gd ha hb hm
theorem Good.neO (g : Good X N sc k fn) {owns : List Str} (T : ownB owns X.K = true) (hc : c ∈ owns) (M : OwnM X.K c "__eq__") (F : DefA X.prog X.w X.K X.mg X.base (He.ma X.K (He.ga X.K c) "__eq__") j ps mf 2 [] idW) (hj : Nat.ble (j + 1) k = true) (ha : SE X a ma) (hb : SE X b mb)
    (hm : behindInMarks .NotEq b = false) : SE X (.Compare a [.NotEq] [b] pos) (mOwn2 false c (tyO owns) mf (mapB not) ma mb) := se_neO T hc M F (g.room.mono (Nat.le_of_ble_eq_true hj)) g.gd ha hb hm
theorem Good.binO (g : Good X N sc k fn) {owns : List Str} {op : Operator} (T : ownB owns X.K = true) (hc : c ∈ owns) (M : OwnM X.K c (PySem.dunder op.info.2)) (F : DefA X.prog X.w X.K X.mg X.base (He.ma X.K (He.ga X.K c) (PySem.dunder op.info.2)) j ps mf 2 [] idW) (hj : Nat.ble j k = true) (ha : SE X a ma) (hb : SE X b mb) :
    SE X (.BinOp a op b pos) (mOwn2 false c (isO c) mf id ma mb) := se_binO (ownB_parts T hc).2.1 M F (g.room.mono (Nat.le_of_ble_eq_true hj)) g.gd ha hb
theorem Good.invO (g : Good X N sc k fn) (M : OwnM X.K c "__invert__") (F : DefA X.prog X.w X.K X.mg X.base (He.ma X.K (He.ga X.K c) "__invert__") j ps mf 1 [] idW) (hj : Nat.ble j k = true) (ha : SE X a ma) : SE X (.UnaryOp .Invert a pos) (mOwn1 c mf id ma) :=
  se_invO M F (g.room.mono (Nat.le_of_ble_eq_true hj)) g.gd ha
theorem Good.lenO (g : Good X N sc k fn) (M : OwnM X.K c "__len__") (F : DefA X.prog X.w X.K X.mg X.base (He.ma X.K (He.ga X.K c) "__len__") j ps mf 1 [] idW) (hj : Nat.ble (j + 1) k = true) (ha : SE X a ma) (hg : sc.names.lookup ("len" : Str) = some .globalImplicit) (hm : X.mg "len" = none)
    {p0 : Pos} (h0 : noStar a = true := by rfl) : SE X (.Call (.Name "len" p0) [a] [] pos) (mOwn1 c mf mapLen ma) := se_lenO M F (g.room.mono (Nat.le_of_ble_eq_true hj)) g.gd ha (g.gl hg) hm h0
theorem Good.reprO (g : Good X N sc k fn) (M : OwnM X.K c "__repr__") (F : DefA X.prog X.w X.K X.mg X.base (He.ma X.K (He.ga X.K c) "__repr__") j ps mf 1 [] idW) (hj : Nat.ble (j + 1) k = true) (ha : SE X a ma) (hg : sc.names.lookup ("repr" : Str) = some .globalImplicit) (hm : X.mg "repr" = none)
    {p0 : Pos} (h0 : noStar a = true := by rfl) : SE X (.Call (.Name "repr" p0) [a] [] pos) (mOwn1 c mf mapStr ma) := se_reprO M F (g.room.mono (Nat.le_of_ble_eq_true hj)) g.gd ha (g.gl hg) hm h0
theorem Good.propO (g : Good X N sc k fn) {f : Str} {ga : Addr} (hc : Cls X.K (He.ga X.K c)) (hp : PropOf X.K (He.ga X.K c) f ga (pgA X.K c f)) (F : DefA X.prog X.w X.K X.mg X.base (pgA X.K c f) j ps mf 1 [] idW) (hj : Nat.ble (j + 1) k = true) (ha : SE X a ma)
    (hab : attributeBase a f X.env (eval a X.env) = eval a X.env := by rfl) : SE X (.Attribute a f pos) (mOwn1 c mf noX ma) := by
  obtain ⟨fd, G, bd⟩ := F.ex
  exact se_propO (fd := fd) hc hp F (g.room.mono (Nat.le_of_ble_eq_true hj)) g.gd ha hab
theorem Good.fld (g : Good X N sc k fn) {f : Str} (hc : Cls X.K (He.ga X.K c)) (hn : NoAttr X.K (He.ga X.K c) f) (he : SE X a ma) (hb : attributeBase a f X.env (eval a X.env) = eval a X.env := by rfl) : SE X (.Attribute a f pos) (mUn (fFld c f) ma) := se_fld he hc hn hb
theorem Good.put (g : Good X N sc k fn) {f : Str} {pos' : Pos} (hc : Cls X.K (He.ga X.K c)) (hn : NoAttr X.K (He.ga X.K c) f) (ho : SE X a ma) (hv : SE X b mb) (hs : ∀ env : Env, swapsWith b (some (.Attribute a f pos')) pos.line { env with scope := sc } = pure false) : SS X (.Assign [.Attribute a f pos'] b pos) (sPut c f ma mb) :=
  ss_fld ho hv hc hn (g.sw3 hs)
variable {e : Expr} {es : List Expr} {al mk : AM} {kws : List Keyword}
theorem Good.make (g : Good X N sc k fn) (M : Mk X.K (He.ga X.K c) (He.ma X.K (He.ga X.K c) "__init__")) (F : DefA X.prog X.w X.K X.mg X.base (He.ma X.K (He.ga X.K c) "__init__") j ps mf (n + 1) [] gW) (hj : Nat.ble (j + 1) k = true) (hg : sc.names.lookup c = some .globalImplicit) (hm : X.mg c = some (.ref (He.ga X.K c)))
    (ha : SA X (e :: es) al) (h0 : noStar e = true := by rfl) (h1 : es.all noStar = true := by rfl) (hdb : (c == ("__debug__" : Str)) = false := by decide) : SE X (.Call (.Name c p) (e :: es) [] pos) (mMake c n 0 gW mf al mNil) :=
  se_make M F (Nat.le_refl _) (g.room.mono (Nat.le_of_ble_eq_true hj)) g.gd (g.gl hg) hm ha h0 h1 hdb
theorem Good.make0 (g : Good X N sc k fn) (M : Mk X.K (He.ga X.K c) (He.ma X.K (He.ga X.K c) "__init__")) (F : DefA X.prog X.w X.K X.mg X.base (He.ma X.K (He.ga X.K c) "__init__") j ps mf 1 [] gW) (hj : Nat.ble (j + 1) k = true) (hg : sc.names.lookup c = some .globalImplicit) (hm : X.mg c = some (.ref (He.ga X.K c)))
    (hdb : (c == ("__debug__" : Str)) = false := by decide) : SE X (.Call (.Name c p) [] [] pos) (mMake c 0 0 gW mf mNil mNil) :=
  se_make0 M F (Nat.le_refl _) (g.room.mono (Nat.le_of_ble_eq_true hj)) g.gd (g.gl hg) hm hdb
variable {tg iter elt kx vx tg1 iter1 : Expr} {ifs ifs1 : List Expr} {mi mi1 : IM} {t t1 : CT} {tt tt1 : TM} {te tk : EM} {scope : Scope} {vs1 : List Nat}
theorem Good.ctN (g : Good X N sc k fn) (i : Nat) {x : Str} {p p2 p3 : Pos} {es : List Expr} {js : List Nat} {kk kk2 : Nat} (hN : N[i]? = some x) (hl : locB sc x = true) (hf : fn x = true ∨ sc.names.lookup x = some .local) (h : PGs X es (gNs js)) (hl2 : es.length = js.length := by rfl) (hs : es.all noStar = true := by rfl) :
    PG X (.Tuple [.Name x p, .Tuple es kk p2] kk2 p3) ((CT.nst i js).g X.K) :=
  pg_tup g.calm (pgs_cons (g.ct1 (K := X.K) i hN hl hf) (pgs_cons (g.ctT h hl2 hs) pgs_nil (assignEach_cons rfl)) (assignEach_cons rfl)) rfl rfl
/-- {key: value for tg in iter if ..} -/
theorem Good.dc (g : Good X N sc k fn) (own : List (Str × Nat)) (t : CT) (hi : SI X tg iter mi) (ok : BlkOk N sc scope own)
    (hg : ∀ (s : Shared) (H : Hp) (C : Addr) (cl : List (Str × Addr)) (fp : List Addr), Good (X.blk s H scope (compEnvC scope cl C X.env) fp) N (relS scope sc) k (fun x => scope.names.lookup x == some .cell) →
      PG (X.blk s H scope (compEnvC scope cl C X.env) fp) tg (t.g X.K) ∧ STs (X.blk s H scope (compEnvC scope cl C X.env) fp) ifs tt ∧ SE (X.blk s H scope (compEnvC scope cl C X.env) fp) kx tk ∧ SE (X.blk s H scope (compEnvC scope cl C X.env) fp) vx te)
    (ho : t.ok (own.map (·.2)) = true) (hs : ∀ env x, foldedSetIterable iter env x = pure x) : SE X (.DictComp kx vx [⟨tg, iter, ifs, 0⟩] scope pos) (mDc mi t tt tk te (own.map (·.2))) :=
  se_dc g.calm g.nd hi (by rw [g.N, g.sc]; exact ok) (fun s H C cl fp => (hg s H C cl fp (g.blk scope s H C cl fp)).1)
    ⟨fun s H C cl fp => (hg s H C cl fp (g.blk scope s H C cl fp)).2.1, fun s H C cl fp => (hg s H C cl fp (g.blk scope s H C cl fp)).2.2.1⟩ ⟨fun s H C cl fp => (hg s H C cl fp (g.blk scope s H C cl fp)).2.1, fun s H C cl fp => (hg s H C cl fp (g.blk scope s H C cl fp)).2.2.2⟩ ho (hs _)
/-- [elt for tg in iter if .. for tg1 in iter1 if ..] -/
theorem Good.lc2 (g : Good X N sc k fn) (own : List (Str × Nat)) (vs1 : List Nat) (t t1 : CT) (hi : SI X tg iter mi) (ok : BlkOk N sc scope own) (hv : (vs1.all fun i => (own.map (·.2)).contains i) = true)
    (hg : ∀ (s : Shared) (H : Hp) (C : Addr) (cl : List (Str × Addr)) (fp : List Addr), Good (X.blk s H scope (compEnvC scope cl C X.env) fp) N (relS scope sc) k (fun x => scope.names.lookup x == some .cell) →
      PG (X.blk s H scope (compEnvC scope cl C X.env) fp) tg (t.g X.K) ∧ STs (X.blk s H scope (compEnvC scope cl C X.env) fp) ifs tt ∧ SI (X.blk s H scope (compEnvC scope cl C X.env) fp) tg1 iter1 mi1 ∧ PG (X.blk s H scope (compEnvC scope cl C X.env) fp) tg1 (t1.g X.K) ∧
        STs (X.blk s H scope (compEnvC scope cl C X.env) fp) ifs1 tt1 ∧ SE (X.blk s H scope (compEnvC scope cl C X.env) fp) elt te)
    (ho : t.ok (own.map (·.2)) = true) (ho1 : t1.ok vs1 = true) (hs : ∀ env x, foldedSetIterable iter env x = pure x) (hs1 : ∀ env x, foldedSetIterable iter1 env x = pure x) : SE X (.ListComp elt [⟨tg, iter, ifs, 0⟩, ⟨tg1, iter1, ifs1, 0⟩] scope pos) (mLc2 mi t tt mi1 t1 tt1 te (own.map (·.2)) vs1) :=
  have hh := fun s H C cl fp => hg s H C cl fp (g.blk scope s H C cl fp)
  se_lc2 g.calm g.nd hi (by rw [g.N, g.sc]; exact ok) (fun i hi => by simpa using List.all_eq_true.mp hv i hi) (fun s H C cl fp => (hh s H C cl fp).1) (fun s H C cl fp => (hh s H C cl fp).2.2.2.1) (fun s H C cl fp => (hh s H C cl fp).2.2.1) (fun s H C cl fp => (hh s H C cl fp).2.1)
    ⟨fun s H C cl fp => (hh s H C cl fp).2.2.2.2.1, fun s H C cl fp => (hh s H C cl fp).2.2.2.2.2⟩ ho ho1 (hs _) hs1
end
end Dm
set_option maxHeartbeats 1000000
/-! Dm, part 53: xs[::-1]. -/
namespace Dm
open PySem PySem.Spec PyProof.Rows L2
open Evl (Ex)
variable [Lams]
def fRev : D → Option D
  | .lst ds => some (.lst ds.reverse)
  | _ => none
theorem se_rev {X : Cx} {e : Expr} {me : EM} {k : Nat} {p1 p2 p3 pos : Pos} (he : SE X e me) : SE X (.Subscript e (.Slice none none (some (.UnaryOp .USub (.Constant (.int 1) k p1) p2)) p3) pos) (mUn fRev me) := by
  refine ⟨un_len he, fun ρ m o m' q B al σ H Q wd rs h pins s I => (pe_revL pe_w).run pins s σ H Q I ?_⟩
  refine un_run (r := fun x H Q => ∃ a xs, x = .ref a ∧ SqL X.K H a xs ∧ ∀ p, H p = none → Q (.ref p) (upd H p (.lst xs.reverse))) (fun dx d hf B H x e hx Q k => ?_) he q wd rs h
  cases dx with
  | lst ds =>
    cases hf
    obtain ⟨a, vs, rfl, sq, r⟩ := hx
    refine ⟨a, vs, rfl, sq, fun p hp => ?_⟩
    obtain ⟨g, rr⟩ := lay_lst e hp r.reverse
    exact k _ _ _ g rr
  | _ => cases hf
/-- a, b = x, y where a tuple is really made; its items may be handles -/
def sParT (ma : AM) (gs : List W → Slots → Mem → SR) (n : Nat) : SM := fun ρ m => sbd (ma ρ m) ρ fun ws m1 => if ws.length = n ∧ ws.length ≤ LIM then gs ws ρ m1 else none
theorem ss_parT {X : Cx} {es vs : List Expr} {k k2 : Nat} {pt pt2 pos : Pos} {ma : AM} {gs : List W → Slots → Mem → SR} (hc : X.calm = true) (ha : SA X vs ma) (h : SGs X es gs) (hs : swapsWithSole [.Tuple es k pt] (.Tuple vs k2 pt2) pos.line X.env = pure false)
    (hw : swappedStores [.Tuple es k pt] (.Tuple vs k2 pt2) X.env = pure none) (hst : es.all noStar = true := by rfl) : SS X (.Assign [.Tuple es k pt] (.Tuple vs k2 pt2) pos) (sParT ma gs es.length) := by
  have inv : ∀ {ws : List W} {ρ : Slots} {m1 m' : Mem} {f : Fl}, (if ws.length = es.length ∧ ws.length ≤ LIM then gs ws ρ m1 else none) = some (f, m') → (ws.length = es.length ∧ ws.length ≤ LIM) ∧ gs ws ρ m1 = some (f, m') := fun {ws ρ m1 m' f} q => by
    split at q
    · next hh => exact ⟨hh, q⟩
    · cases q
  refine ⟨fun ρ m f m' q => sbd_len q (ha.len ρ m) fun w m1 q1 => h.len _ _ _ _ _ (inv q1).2, fun ρ m f m' q B al σ H D wd rs hh pins s I => (ps_asg (pe_tup pa_w) (pg_tup hc pgs_w assignEach_len (assignEach_star hst)) hs hw (assignEach_cons rfl)).run pins s σ H D I ?_⟩
  refine ha.ssq q wd rs hh fun ws m1 q1 l1 B1 al1 vs1 H1 e1 g1 wd1 r1 => ?_
  obtain ⟨⟨h1, h2⟩, q2⟩ := inv q1
  obtain ⟨ρ', rfl⟩ := h.nx _ _ _ _ _ q2
  have hl := r1.length
  refine ⟨lim_ok (by rw [hl]; exact h2), fun p hp => ?_⟩
  have wd2 := wd1.grow (Gr.by (o := .tup vs1) wd1.ext hp)
  exact ⟨p, vs1, rfl, .inl (.inl upd_same), hl.trans h1, h.run ws ρ m1 ρ' m' q2 B1 al1 σ _ vs1 D.nx wd2 (rs.mono e1 g1 l1) r1 (AnsN.mono e1 g1 l1 hh)⟩
theorem Good.parT {X : Cx} {N : List Str} {sc : Scope} {j : Nat} {fn : Str → Bool} (g : Good X N sc j fn) {es vs : List Expr} {k k2 : Nat} {pt pt2 pos : Pos} {ma : AM} {gs : List W → Slots → Mem → SR} (ha : SA X vs ma) (h : SGs X es gs)
    (hs : ∀ env : Env, swapsWithSole [.Tuple es k pt] (.Tuple vs k2 pt2) pos.line { env with scope := sc } = pure false) (hw : ∀ env : Env, swappedStores [.Tuple es k pt] (.Tuple vs k2 pt2) { env with scope := sc } = pure none) (hst : es.all noStar = true := by rfl) :
    SS X (.Assign [.Tuple es k pt] (.Tuple vs k2 pt2) pos) (sParT ma gs es.length) := ss_parT g.calm ha h (g.sw1 hs) (g.sw2 hw) hst
end Dm
set_option maxHeartbeats 1000000
/-! Dm, part 54: captured cells put into what is known, and taken out of it. -/
namespace Dm
open PySem PySem.Spec PyProof.Rows L2
open Evl (Ex)
open LamX (CodeO)
variable [Lams]
def Hdrop (H : Hp) (S : List Addr) : Hp := fun a => if a ∈ S then none else H a
def Hput (H C : Hp) (S : List Addr) : Hp := fun a => if a ∈ S then C a else H a
section
variable {H C : Hp} {S : List Addr} {a : Addr}
theorem drop_in (h : a ∈ S) : Hdrop H S a = none := if_pos h
theorem drop_out (h : a ∉ S) : Hdrop H S a = H a := if_neg h
theorem put_in (h : a ∈ S) : Hput H C S a = C a := if_pos h
theorem put_out (h : a ∉ S) : Hput H C S a = H a := if_neg h
end
/-- captured cells stand at S -/
def Cz (B : Hp) (S : List Addr) : Prop := ∀ a, a ∈ S → ∃ o v, B a = some (cfz a o) ∧ o.data = .cell v
/-- kept, but for captured cells -/
def Exq (B B' : Hp) : Prop := ∀ a o, B a = some o → (∀ c ob, o ≠ cfz c ob) → B' a = some o
theorem cfz_ne {o : HO} (h : ∀ ob u, o ≠ .frz ob u) : ∀ c ob, o ≠ cfz c ob := fun c ob e => h _ _ e
theorem cfz_frz {ob : Obj} {u : HO} (h : ∀ φ, u ≠ .ext φ) : ∀ c o', HO.frz ob u ≠ cfz c o' := fun c o' e => by
  unfold cfz at e
  cases e
  exact h _ rfl
theorem rd_q {B B' : Hp} (e : Exq B B') {a : Addr} {u : HO} (h1 : ∀ ob w, u ≠ .frz ob w) (h2 : ∀ φ, u ≠ .ext φ) (h : Rd B a u) : Rd B' a u := by
  rcases h with h | ⟨o, h⟩
  · exact .inl (e _ _ h (cfz_ne h1))
  · exact .inr ⟨o, e _ _ h (cfz_frz h2)⟩
section
variable {K : PySem.W.Frag} {B B' : Hp}
theorem sqt_q (e : Exq B B') {a : Addr} {vs : List V} (h : SqT K B a vs) : SqT K B' a vs := h.imp (rd_q e (by intro _ _ z; cases z) (by intro _ z; cases z)) id
theorem sql_q (e : Exq B B') {a : Addr} {vs : List V} (h : SqL K B a vs) : SqL K B' a vs := h.imp (rd_q e (by intro _ _ z; cases z) (by intro _ z; cases z)) id
mutual
theorem Rep.q (e : Exq B B') : ∀ {v d}, Rep K B v d → Rep K B' v d
  | _, _, .non => .non
  | _, _, .bl b => .bl b
  | _, _, .int i => .int i
  | _, _, .str x => .str x
  | _, _, .ty n => .ty n
  | _, _, .cl c => .cl c
  | _, _, .tup h r => .tup (sqt_q e h) (Reps.q e r)
  | _, _, .lst h r => .lst (sql_q e h) (Reps.q e r)
  | _, _, .dct h r => .dct (rd_q e (by intro _ _ z; cases z) (by intro _ z; cases z) h) (RepK.q e r)
  | _, _, .dctT h r => .dctT (rd_q e (by intro _ _ z; cases z) (by intro _ z; cases z) h) (RepT.q e r)
  | _, _, .obj h r => .obj (e _ _ h (cfz_ne (by intro _ _ z; cases z))) (RepF.q e r)
  | _, _, .exc0 h => .exc0 (e _ _ h (cfz_ne (by intro _ _ z; unfold exo at z; cases z)))
  | _, _, .exc h h2 r => .exc (e _ _ h (cfz_ne (by intro _ _ z; unfold exo at z; cases z))) (e _ _ h2 (cfz_ne (by intro _ _ z; unfold exd at z; cases z))) (RepF.q e r)
theorem Reps.q (e : Exq B B') : ∀ {v d}, Reps K B v d → Reps K B' v d
  | _, _, .nil => .nil
  | _, _, .cons r rs => .cons (Rep.q e r) (Reps.q e rs)
theorem RepK.q (e : Exq B B') : ∀ {v d}, RepK K B v d → RepK K B' v d
  | _, _, .nil => .nil
  | _, _, .cons r rs => .cons (Rep.q e r) (RepK.q e rs)
theorem RepT.q (e : Exq B B') : ∀ {v d}, RepT K B v d → RepT K B' v d
  | _, _, .one r => .one (Rep.q e r)
  | _, _, .cons r rs => .cons (Rep.q e r) (RepT.q e rs)
theorem RepF.q (e : Exq B B') : ∀ {v d}, RepF K B v d → RepF K B' v d
  | _, _, .nil => .nil
  | _, _, .cons r rs => .cons (Rep.q e r) (RepF.q e rs)
end
theorem RepCp.q (e : Exq B B') {al : Nat → Addr} {n : Nat} : ∀ {vs : List V} {cs : List Cp}, RepCp K B al n vs cs → RepCp K B' al n vs cs
  | [], [], _ => trivial
  | _ :: _, .d _ :: _, h => ⟨Rep.q e h.1, RepCp.q e h.2⟩
  | _ :: _, .h k :: _, h => ⟨h.1, RepCp.q e h.2⟩
  | [], .d _ :: _, h => h.elim
  | [], .h _ :: _, h => h.elim
  | _ :: _, [], h => h.elim
theorem RepCp.toL {al : Pl} {n : Nat} : ∀ {vs : List V} {cs : List Cp}, RepCp K B al.at_ n vs cs → RepL K B al n vs (cs.map Cp.w)
  | [], [], _ => trivial
  | _ :: _, .d _ :: _, h => ⟨h.1, RepCp.toL h.2⟩
  | _ :: _, .h k :: _, h => ⟨h.1, RepCp.toL h.2⟩
  | [], .d _ :: _, h => h.elim
  | [], .h _ :: _, h => h.elim
  | _ :: _, [], h => h.elim
theorem RepW.q (e : Exq B B') {al : Pl} {n : Nat} {v : V} {w : W} (hw : w.plain = true) (h : RepW K B al n v w) : RepW K B' al n v w := by
  cases w with
  | dat d => exact Rep.q e h
  | hdl k => exact h
  | clo i ds => cases hw
theorem RepC.q (e : Exq B B') {al : Pl} {k : Nat} {H : Hp} {a : Addr} {c : Cell} (h : RepC K B al k H a c) : RepC K B' al k H a c := by
  cases c with
  | lst ds => obtain ⟨vs, q, r⟩ := h; exact ⟨vs, q, r.q e⟩
  | dct es =>
    rcases h with ⟨kvs, q, r⟩ | ⟨kvs, q, r⟩
    · exact .inl ⟨kvs, q, r.q e⟩
    · exact .inr ⟨kvs, q, r.q e⟩
  | obj c fs => obtain ⟨dx, gs, q, r⟩ := h; exact ⟨dx, gs, q, r.q e⟩
  | lstH ws =>
    obtain ⟨vs, q, hl, r⟩ := h
    exact ⟨vs, q, hl, fun i w z => let ⟨r0, v, r1, r2⟩ := r i w z; ⟨r0, v, r1, r2.q e r0⟩⟩
  | dead => trivial
theorem drop_q {S : List Addr} (cz : Cz B S) : Exq B (Hdrop B S) := fun a o h hn => by
  have z : a ∉ S := fun z => by
    obtain ⟨ob, v, q, _⟩ := cz a z
    rw [h] at q
    cases q
    exact hn _ _ rfl
  rw [drop_out z]; exact h
theorem cz_out {S : List Addr} (cz : Cz B S) {a : Addr} {o : HO} (h : B a = some o) (hn : ∀ c ob, o ≠ cfz c ob) : a ∉ S := fun z => by
  obtain ⟨ob, v, q, _⟩ := cz a z
  rw [h] at q
  cases q
  exact hn _ _ rfl
theorem cz_none {S : List Addr} (cz : Cz B S) {a : Addr} (h : B a = none) : a ∉ S := fun z => by
  obtain ⟨ob, v, q, _⟩ := cz a z
  rw [h] at q
  cases q
theorem codeO_cfz {c : Addr} {q : Str} : ∀ c' ob, CodeO c q ≠ cfz c' ob := cfz_ne (by intro _ _ z; unfold CodeO at z; cases z)
theorem Wd.dropC {al : Pl} {m : Mem} {H : Hp} {S : List Addr} (wd : Wd K B al m H) (cz : Cz B S) : Wd K (Hdrop B S) al m (Hdrop H S) := by
  refine ⟨fun a o e => ?_, fun k c e hd => ?_, wd.inj, fun a o e => ?_, fun a ha => ?_, wd.fc, fun a o e => ?_, fun p hp => ?_⟩
  · by_cases z : a ∈ S
    · rw [drop_in z] at e; cases e
    · rw [drop_out z] at e ⊢; exact wd.ext a o e
  · obtain ⟨h1, h2⟩ := wd.cell k c e hd
    have z := cz_none cz h1
    exact ⟨by rw [drop_out z]; exact h1, (h2.at_ (drop_out z)).q (drop_q cz)⟩
  · have z := cz_none cz (wd.fb a (by rw [e]; simp))
    rw [drop_out z]; exact wd.fx a o e
  · by_cases z : a ∈ S
    · exact drop_in z
    · rw [drop_out z]; exact wd.fb a ha
  · by_cases z : a ∈ S
    · rw [drop_in z] at e; cases e
    · rw [drop_out z] at e; exact wd.lk a o e
  · obtain ⟨ps, t1, t2, t3, t4, t5⟩ := wd.tb p hp
    have z := cz_none cz t4
    exact ⟨ps, by rw [drop_out z]; exact t1, t2, fun pos cv q => let ⟨c, e1, e2⟩ := t3 pos cv q; ⟨c, e1, drop_q cz _ _ e2 codeO_cfz⟩, by rw [drop_out z]; exact t4, t5⟩
theorem put_ex {H C : Hp} {S : List Addr} (no : ∀ a, a ∈ S → H a = none) : Ex H (Hput H C S) := fun a o e => by
  have z : a ∉ S := fun z => by rw [no a z] at e; cases e
  rw [put_out z]; exact e
theorem Wd.no {al : Pl} {m : Mem} {H : Hp} {S : List Addr} (wd : Wd K B al m H) (no : ∀ a, a ∈ S → H a = none) : ∀ a, a ∈ S → B a = none := fun a ha => by
  cases e : B a with
  | none => rfl
  | some o => have := wd.ext a o e; rw [no a ha] at this; cases this
theorem Wd.putC {al : Pl} {m : Mem} {H C : Hp} {S : List Addr} (wd : Wd K B al m H) (no : ∀ a, a ∈ S → H a = none) (cz : Cz C S) : Wd K (Hput B C S) al m (Hput H C S) := by
  have ex := put_ex (C := C) (wd.no no)
  refine ⟨fun a o e => ?_, fun k c e hd => ?_, wd.inj, fun a o e => ?_, fun a ha => ?_, wd.fc, fun a o e => ?_, fun p hp => ?_⟩
  · by_cases z : a ∈ S
    · rw [put_in z] at e ⊢; exact e
    · rw [put_out z] at e ⊢; exact wd.ext a o e
  · obtain ⟨h1, h2⟩ := wd.cell k c e hd
    have z : al k ∉ S := fun z => wd.notNew (no _ z) e hd rfl
    exact ⟨by rw [put_out z]; exact h1, (h2.at_ (put_out z)).monoB ex⟩
  · have e2 := wd.fx a o e
    have z : a ∉ S := fun z => by rw [no a z] at e2; cases e2
    rw [put_out z]; exact e2
  · have z : a ∉ S := fun z => by
      cases e : al.fr a with
      | none => exact ha e
      | some o => have e2 := wd.fx a o e; rw [no a z] at e2; cases e2
    rw [put_out z]; exact wd.fb a ha
  · by_cases z : a ∈ S
    · rw [put_in z] at e
      obtain ⟨ob, v, q, _⟩ := cz a z
      rw [e] at q; cases q; rfl
    · rw [put_out z] at e; exact wd.lk a o e
  · obtain ⟨ps, t1, t2, t3, t4, t5⟩ := wd.tb p hp
    have z : tabA K p.1 ∉ S := fun z => by rw [no _ z] at t1; cases t1
    exact ⟨ps, by rw [put_out z]; exact t1, t2, fun pos cv q => let ⟨c, e1, e2⟩ := t3 pos cv q; ⟨c, e1, ex _ _ e2⟩, by rw [put_out z]; exact t4, t5⟩
end
/-! ### the heap behind it -/
section
variable {P : Program} {w : World} {H C : Hp} {h : Heap} {S : List Addr}
theorem hok_drop (hok : HOk P w H h) (cz : Cz H S) : HOk P w (Hdrop H S) h := fun a o e => by
  have z : a ∉ S := fun z => by rw [drop_in z] at e; cases e
  rw [drop_out z] at e
  exact (hok a o e).stay (fun _ _ _ q => q) (fun b q => by rw [drop_out (cz_out cz q (cfz_ne (by intro _ _ z; cases z)))]; exact q) fun b xs q => by
    rw [drop_out (cz_out cz q (cfz_ne (by intro _ _ z; cases z)))]; exact q
theorem cfz_ok {a : Addr} {o : Obj} (e : h.get? a = some o) : ObjOk P w H h a (cfz a o) := ⟨e, e, ⟨o, e⟩, fun h1 h2 q k => k _ q⟩
theorem hok_put (hok : HOk P w H h) (no : ∀ a, a ∈ S → H a = none) (cz : ∀ a, a ∈ S → ∃ o, C a = some (cfz a o) ∧ h.get? a = some o) : HOk P w (Hput H C S) h := fun a o e => by
  by_cases z : a ∈ S
  · rw [put_in z] at e
    obtain ⟨ob, q, q2⟩ := cz a z
    rw [e] at q; cases q
    exact cfz_ok q2
  · rw [put_out z] at e
    exact (hok a o e).stay (fun _ _ _ q => q) (fun b q => by rw [put_out (fun z => by rw [no b z] at q; cases q)]; exact q) fun b xs q => by
      rw [put_out (fun z => by rw [no b z] at q; cases q)]; exact q
variable {K : PySem.W.Frag} {mg : Str → Option Value} {bs : Heap} {A : Around} {fr : List Env} {s s' : Shared} {Q : VK} {E : XK}
theorem env_drop (e : Env0 P w K mg bs A fr s H) (cz : Cz H S) : Env0 P w K mg bs A fr s (Hdrop H S) :=
  ⟨e.frames, e.mod, fun b o q => let ⟨h1, h2⟩ := e.bs b o q; ⟨h1, by by_cases z : b ∈ S; exact drop_in z; rw [drop_out z]; exact h2⟩, e.bsz, e.funs, fun b hb => by
    by_cases z : b ∈ S
    · exact drop_in z
    · rw [drop_out z]; exact e.frf b hb, hok_drop e.hok cz, e.bare⟩
theorem env_put (e : Env0 P w K mg bs A fr s H) (no : ∀ a, a ∈ S → H a = none ∧ bs.get? a = none ∧ a ∉ frs fr) (cz : ∀ a, a ∈ S → ∃ o, C a = some (cfz a o) ∧ s.heap.get? a = some o) : Env0 P w K mg bs A fr s (Hput H C S) :=
  ⟨e.frames, e.mod, fun b o q => let ⟨h1, h2⟩ := e.bs b o q; ⟨h1, by rw [put_out (fun z => by rw [(no b z).2.1] at q; cases q)]; exact h2⟩, e.bsz, e.funs, fun b hb => by
    rw [put_out (fun z => (no b z).2.2 hb)]; exact e.frf b hb, hok_put e.hok (fun a ha => (no a ha).1) cz, e.bare⟩
/-- behind a call that was let see captured cells -/
theorem ce_put (no : ∀ a, a ∈ S → H a = none ∧ a ∉ frs fr) (cz : ∀ a, a ∈ S → ∃ o v, C a = some (cfz a o) ∧ s.heap.get? a = some o ∧ o.data = .cell v) {u : Value} (h : CE fr P w (Hput H C S) s (fun v H' => Cz H' S → Q v (Hdrop H' S)) u s') : CE fr P w H s Q u s' := by
  obtain ⟨v, H', os, bare, un, hok, rv, q⟩ := h
  have cz' : Cz H' S := fun a ha => by
    obtain ⟨o, v, h1, h2, h3⟩ := cz a ha
    have e : Hput H C S a = some (cfz a o) := by rw [put_in ha]; exact h1
    exact ⟨o, v, un.frzs a _ _ e, h3⟩
  have still : ∀ a o, a ∈ S → s.heap.get? a = some o → s'.heap.get? a = some o := fun a o ha e => by
    obtain ⟨ob, v, h1, h2, h3⟩ := cz a ha
    rw [e] at h2; cases h2
    have e2 : Hput H C S a = some (cfz a o) := by rw [put_in ha]; exact h1
    exact (hok a _ (un.frzs a _ _ e2)).1
  have outS : ∀ {b o}, H b = some o → b ∉ S := fun {b o} e z => by rw [(no b z).1] at e; cases e
  refine ⟨v, Hdrop H' S, os, bare, ⟨fun b o e n f x => ?_, fun b o e n f x => ?_, fun b o e n x => ?_, un.there, fun b xs e => ?_, fun b o u e => ?_, fun b ps e => ?_⟩, hok_drop hok cz', rv, q cz'⟩
  · by_cases z : b ∈ S
    · exact still b o z e
    · exact un.keep b o e (by rw [put_out z]; exact n) f x
  · exact un.slot b o e (by rw [put_out (fun z => (no b z).2 f)]; exact n) f x
  · by_cases z : b ∈ S
    · exact drop_in z
    · rw [drop_out z]; exact un.free b o e (by rw [put_out z]; exact n) x
  · rw [drop_out (outS e)]; exact un.tups b xs (by rw [put_out (outS e)]; exact e)
  · rw [drop_out (outS e)]; exact un.frzs b o u (by rw [put_out (outS e)]; exact e)
  · rw [drop_out (outS e)]; exact un.tbls b ps (by rw [put_out (outS e)]; exact e)
theorem cx_put (no : ∀ a, a ∈ S → H a = none ∧ a ∉ frs fr) (cz : ∀ a, a ∈ S → ∃ o v, C a = some (cfz a o) ∧ s.heap.get? a = some o ∧ o.data = .cell v) {u : Value} (h : L2.CX P w fr (Hput H C S) s (fun c d H' => Cz H' S → E c d (Hdrop H' S)) u s') : L2.CX P w fr H s E u s' := by
  obtain ⟨a, G, H', cls, d, e, fl, hok, ub, na, os, bare, q⟩ := h
  have cz' : Cz H' S := fun a ha => by
    obtain ⟨o, v, h1, h2, h3⟩ := cz a ha
    have e : Hput H C S a = some (cfz a o) := by rw [put_in ha]; exact h1
    exact ⟨o, v, ub.frzs a _ _ e, h3⟩
  have still : ∀ a o, a ∈ S → s.heap.get? a = some o → G.get? a = some o := fun a o ha e => by
    obtain ⟨ob, v, h1, h2, h3⟩ := cz a ha
    rw [e] at h2; cases h2
    have e2 : Hput H C S a = some (cfz a o) := by rw [put_in ha]; exact h1
    exact (hok a _ (ub.frzs a _ _ e2)).1
  have outS : ∀ {b o}, H b = some o → b ∉ S := fun {b o} e z => by rw [(no b z).1] at e; cases e
  refine ⟨a, G, Hdrop H' S, cls, d, e, fl, hok_drop hok cz', ?_, ?_, os, bare, q cz'⟩
  · refine ⟨fun b o e n f => ?_, ub.slot, fun b o e n => ?_, ub.there, fun b xs e => ?_, fun b o u e => ?_, fun b ps e => ?_⟩
    · by_cases z : b ∈ S
      · exact still b o z e
      · exact ub.keep b o e (by rw [put_out z]; exact n) f
    · by_cases z : b ∈ S
      · exact drop_in z
      · rw [drop_out z]; exact ub.free b o e (by rw [put_out z]; exact n)
    · rw [drop_out (outS e)]; exact ub.tups b xs (by rw [put_out (outS e)]; exact e)
    · rw [drop_out (outS e)]; exact ub.frzs b o u (by rw [put_out (outS e)]; exact e)
    · rw [drop_out (outS e)]; exact ub.tbls b ps (by rw [put_out (outS e)]; exact e)
  · by_cases z : a ∈ S
    · exact drop_in z
    · rw [drop_out z]; exact na
/-- behind a call that was not let see them -/
theorem ce_drop (cz : Cz H S) (hok0 : HOk P w H s.heap) (frf : ∀ b ∈ frs fr, H b = none) {u : Value} (h : CE fr P w (Hdrop H S) s (fun v H' => (∀ a, a ∈ S → H' a = none) → Q v (Hput H' H S)) u s') : CE fr P w H s Q u s' := by
  obtain ⟨v, H', os, bare, un, hok, rv, q⟩ := h
  have at_ : ∀ a, a ∈ S → ∃ o, H a = some (cfz a o) ∧ s.heap.get? a = some o ∧ s'.heap.get? a = some o ∧ H' a = none := fun a ha => by
    obtain ⟨o, v, h1, h2⟩ := cz a ha
    have e := (hok0 a _ h1).1
    have nf : a ∉ frs fr := fun z => by rw [frf a z] at h1; cases h1
    exact ⟨o, h1, e, un.keep a o e (drop_in ha) nf (by simp), un.free a o e (drop_in ha) (by simp)⟩
  have no : ∀ a, a ∈ S → H' a = none := fun a ha => let ⟨_, _, _, _, z⟩ := at_ a ha; z
  have nS : ∀ {b}, H b = none → b ∉ S := fun {b} n z => by obtain ⟨o, e, _⟩ := at_ b z; rw [n] at e; cases e
  have dn : ∀ {b}, H b = none → Hdrop H S b = none := fun {b} n => by rw [drop_out (nS n)]; exact n
  refine ⟨v, Hput H' H S, os, bare, ⟨fun b o e n => un.keep b o e (dn n), fun b o e n => un.slot b o e (dn n), fun b o e n x => ?_, un.there, fun b xs e => ?_, fun b o u e => ?_, fun b ps e => ?_⟩, hok_put hok no (fun a ha => let ⟨o, e1, _, e2, _⟩ := at_ a ha; ⟨o, e1, e2⟩), rv, q no⟩
  · rw [put_out (nS n)]; exact un.free b o e (dn n) x
  · have z := cz_out cz e (cfz_ne (by intro _ _ z; cases z))
    rw [put_out z]; exact un.tups b xs (by rw [drop_out z]; exact e)
  · by_cases z : b ∈ S
    · rw [put_in z]; exact e
    · rw [put_out z]; exact un.frzs b o u (by rw [drop_out z]; exact e)
  · have z := cz_out cz e (cfz_ne (by intro _ _ z; cases z))
    rw [put_out z]; exact un.tbls b ps (by rw [drop_out z]; exact e)
theorem cx_drop (cz : Cz H S) (hok0 : HOk P w H s.heap) (frf : ∀ b ∈ frs fr, H b = none) {u : Value} (h : L2.CX P w fr (Hdrop H S) s (fun c d H' => (∀ a, a ∈ S → H' a = none) → E c d (Hput H' H S)) u s') : L2.CX P w fr H s E u s' := by
  obtain ⟨x, G, H', cls, d, e, fl, hok, ub, na, os, bare, q⟩ := h
  have at_ : ∀ a, a ∈ S → ∃ o, H a = some (cfz a o) ∧ s.heap.get? a = some o ∧ G.get? a = some o ∧ H' a = none := fun a ha => by
    obtain ⟨o, v, h1, h2⟩ := cz a ha
    have e := (hok0 a _ h1).1
    have nf : a ∉ frs fr := fun z => by rw [frf a z] at h1; cases h1
    exact ⟨o, h1, e, ub.keep a o e (drop_in ha) nf, ub.free a o e (drop_in ha)⟩
  have no : ∀ a, a ∈ S → H' a = none := fun a ha => let ⟨_, _, _, _, z⟩ := at_ a ha; z
  have nS : ∀ {b}, H b = none → b ∉ S := fun {b} n z => by obtain ⟨o, e, _⟩ := at_ b z; rw [n] at e; cases e
  have dn : ∀ {b}, H b = none → Hdrop H S b = none := fun {b} n => by rw [drop_out (nS n)]; exact n
  refine ⟨x, G, Hput H' H S, cls, d, e, fl, hok_put hok no (fun a ha => let ⟨o, e1, _, e2, _⟩ := at_ a ha; ⟨o, e1, e2⟩), ⟨fun b o e n f => ub.keep b o e (dn n) f, ub.slot, fun b o e n => ?_, ub.there, fun b xs e => ?_, fun b o u e => ?_, fun b ps e => ?_⟩, ?_, os, bare, q no⟩
  · rw [put_out (nS n)]; exact ub.free b o e (dn n)
  · have z := cz_out cz e (cfz_ne (by intro _ _ z; cases z))
    rw [put_out z]; exact ub.tups b xs (by rw [drop_out z]; exact e)
  · by_cases z : b ∈ S
    · rw [put_in z]; exact e
    · rw [put_out z]; exact ub.frzs b o u (by rw [drop_out z]; exact e)
  · have z := cz_out cz e (cfz_ne (by intro _ _ z; cases z))
    rw [put_out z]; exact ub.tbls b ps (by rw [drop_out z]; exact e)
  · have z : x ∉ S := fun z => by
      obtain ⟨o, e1, e2, e3, e4⟩ := at_ x z
      have := fl.2.1
      rw [e3] at this; cases this
    rw [put_out z]; exact na
end
end Dm
set_option maxHeartbeats 1000000
/-! Dm, part 55: a lambda with parameters and captured cells, called. -/
namespace Dm
open PySem PySem.Spec PyProof.Rows L2
open Evl (Ex)
open LamX (CodeO)
open NdefX (NF NScope CellsAt startF envF ncx inv_startN)
variable [Lams]
theorem lamO_at {P : Program} {w : World} {H : Hp} {h : Heap} {f : Addr} {F : NF} {b : PySem.Expr} (hok : HOk P w H h) (e : H f = some (LamO f F b)) : ∃ pm ctv : Value, h.get? f = some (PySem.W.kla_obj "<lambda>" F.qual F.params b F.scope F.cl pm F.c ctv) := (hok f _ e).1
/-- what a lambda promises: ws is what its captured cells hold at the call -/
structure LmOk (P : Program) (w : World) (K : PySem.W.Frag) (mg : Str → Option Value) (base : Heap) (CX : CXT) (k : Nat) (f : Addr) (F : NF) (b : PySem.Expr) (ps fr : List Str) (sp : List (Option V) → Sp) : Prop where
  len : ∀ ws vs H Q E, sp ws vs H Q E → vs.length = ps.length
  run : ∀ (A : Around) (outer : List Env) (s : Shared) (H : Hp) (us : List Value) (vs : List V) (ws : List (Option V)) (Q : VK) (E : XK), A.guards = some [] → Room k A → Env0 P w K mg base A outer s H → H f = some (LamO f F b) → H F.c = some (CodeO F.c F.qual) →
    CellsAt F.cl fr ws s.heap H → Vals vs us → sp ws vs H Q E → codeAny (model P w) A (.call (.ref f) ⟨us, []⟩) (CR CX outer P w H s Q E) s
section
variable {CX : CXT} {P : Program} {w : World} {K : PySem.W.Frag} {mg : Str → Option Value} {base : Heap} {N ps fr : List Str} {F : NF} {b : PySem.Expr} {f : Addr} {k j : Nat} {sp : List (Option V) → Sp}
/-- a lambda keeps its promise if its body does -/
theorem lmOk_of (S : NScope N ps fr F.scope) (hb : ∀ (pm ctv : Value) (us : List Value), us.length = ps.length → bindArgs (PySem.W.kla_fn "<lambda>" F.qual F.params b F.scope F.cl pm (.ref F.c) ctv) ⟨us, []⟩ = pure (ps.zip us)) (hlen : ∀ ws vs H Q E, sp ws vs H Q E → vs.length = ps.length)
    (inside : ∀ (A : Around) (outer : List Env) (s : Shared) (H : Hp) (vs : List V) (ws : List (Option V)) (Q : VK) (E : XK), A.guards = some [] → Room k (A.deeper (envF F f s.heap.objs.size)) → ws.length = fr.length → sp ws vs H Q E →
      ∃ t, PE (ncx CX P w K mg base N F f A outer s H E) b t ∧ t (startF N vs ws) H Q) :
    LmOk P w K mg base CX (k + 1) f F b ps fr sp := by
  constructor
  · exact hlen
  intro A outer s H us vs ws Q E hG rm env0 hf hc C rel prom
  have le := hlen _ _ _ _ _ prom
  have noLim : s.heap.NoLimit := env0.mod.nolimit.keeps fun b o e => (env0.bs b o e).1
  obtain ⟨pm, ctv, ho⟩ := lamO_at env0.hok hf
  obtain ⟨⟨oc, fs, t, hoc, hdc, hvc⟩, _, _⟩ := env0.hok F.c _ hc
  refine PySem.W.kla_callFunE rm.depth ho rfl S.co S.gen rfl ⟨F.c, oc, fs, t, rfl, hoc, hdc, hvc⟩ ?_
  rw [hb pm ctv us (by rw [← rel.length]; exact le)]
  refine wpAny_pure (wpAny_newFunctionEnv S.nocell (fun ⟨n, _⟩ hy => S.par n (List.of_mem_zip hy).1) (fun g hns hsb => ⟨noLim.fresh _ hsb, ?_⟩) S.kind)
  show codeAny _ _ (.expr b (envF F f s.heap.objs.size)) _ _
  have old : ∀ b o, s.heap.get? b = some o → g.get? b = some o := fun b o e => hsb.extBut b o (Nat.ne_of_lt (Heap.lt_size e)) (Heap.get?_push_of_some _ e)
  obtain ⟨tr, body, goes⟩ := inside A outer s H vs ws Q E hG (rm.deeper _) C.len prom
  have I : Inv (ncx CX P w K mg base N F f A outer s H E) [] (startF N vs ws) H { s with heap := g, toks := s.toks + (ps.zip us).length } := inv_startN S rm.hd env0 le rel C hns old
  refine PySem.W.kla_codeExpr (wpAny_mono (body.run [] _ (startF N vs ws) H Q I goes) (fun v s' hq => ?_) fun e s' hq => hq)
  obtain ⟨x, H', J, rv, q⟩ := hq
  exact ⟨x, H', J.os, J.bare, J.base, J.hok, rv, q⟩
end
def AnsO (K : PySem.W.Frag) (B : Hp) (al : Pl) (n : Nat) (m' : Mem) (Q : VK) (E : XK) : Out W → Prop
  | .ok w => AnsW K B al n w m' Q
  | .ex c fs => AnsX K B al n c fs m' E
/-- a lambda's promise by a mirror of its arguments, then of what it captured -/
def spL (K : PySem.W.Frag) (n : Nat) (F : FM) : List (Option V) → Sp := fun cs vs H Q E => vs.length = n ∧ ∃ (B : Hp) (al : Pl) (m : Mem) (ws : List W) (us : List V) (ds : List Cp) (o : Out W) (m' : Mem), cs = us.map some ∧ RepCp K B al.at_ m.length us ds ∧ F (ws ++ ds.map Cp.w) m = some (o, m') ∧ Wd K B al m H ∧ RepL K B al m.length vs ws ∧
  AnsO K B al m.length m' Q E o
structure LmD (P : Program) (w : World) (K : PySem.W.Frag) (mg : Str → Option Value) (bs : Heap) (k i n : Nat) (F : FM) : Prop where
  len : LenF F
  run : ∃ ps : List Str, ps.length = n ∧ ∀ f cl c, LmOk P w K mg bs (L2.CX P w) k f (nfOf i cl c) (Lams.of i).body ps (Lams.of i).fr (spL K n F)
/-- the body's mirror, from the arguments and what is captured -/
def mLam (N : List Str) (te : EM) : FM := fun ws m => te (ws.map some ++ List.replicate (N.length - ws.length) none) m
theorem start_two {N : List Str} {vs us : List V} : startF N vs (us.map some) = L2.start N (vs ++ us) := by
  unfold startF L2.start
  rw [List.map_append, List.append_assoc, List.length_append, List.length_map, Nat.sub_sub]
theorem lmd_of {P : Program} {w : World} {K : PySem.W.Frag} {mg : Str → Option Value} {base : Heap} {N ps : List Str} {i k : Nat} {te : EM} (S : NScope N ps (Lams.of i).fr (Lams.of i).scope) (hsm : ∃ mm, base.Ns sysModules mm) (rm : Room (k + 1) callerA)
    (hb : ∀ (cl : List (Str × Addr)) (c : Addr) (pm ctv : Value) (us : List Value), us.length = ps.length → bindArgs (PySem.W.kla_fn "<lambda>" (Lams.of i).qual (Lams.of i).params (Lams.of i).body (Lams.of i).scope cl pm (.ref c) ctv) ⟨us, []⟩ = pure (ps.zip us))
    (body : ∀ X : Cx, X.prog = P → X.w = w → X.K = K → X.mg = mg → X.base = base → Good X N (Lams.of i).scope k (fun _ => false) → SE X (Lams.of i).body te) : LmD P w K mg base (k + 1) i ps.length (mLam N te) := by
  constructor
  · intro ws m o m' q
    have g : Good (ncx (L2.CX P w) P w K mg base N (nfOf i [] 0) 0 callerA [] ⟨{}, #[], {}, 1, {}⟩ (fun _ => none) E0) N (Lams.of i).scope k (fun _ => false) := ⟨rfl, rfl, rm.deeper _, rfl, rfl, rfl, S.nd, hsm⟩
    exact (body _ rfl rfl rfl rfl rfl g).len _ _ _ _ q
  · refine ⟨ps, rfl, fun f cl c => ?_⟩
    refine lmOk_of (F := nfOf i cl c) S (hb cl c) (fun ws vs H Q E h => h.1) fun A outer s H vs cs Q E hG rm hl h => ?_
    obtain ⟨hn, B, al, m, ws, us, ds, o, m', rfl, rd, q, wd, r, ho⟩ := h
    have g : Good (ncx (L2.CX P w) P w K mg base N (nfOf i cl c) f A outer s H E) N (Lams.of i).scope k (fun _ => false) := ⟨rfl, rfl, rm, hG, rfl, rfl, S.nd, hsm⟩
    have hx : Takes (ncx (L2.CX P w) P w K mg base N (nfOf i cl c) f A outer s H E) (fun cls d _ H => E cls d H) := takes_of rfl rfl rfl rfl
    have se := body _ rfl rfl rfl rfl rfl g
    refine ⟨wE _ _, pe_w, ?_⟩
    rw [start_two]
    have rs := repS_start (N := N) (RepL.append r rd.toL)
    refine se.run _ _ _ _ q B al _ H Q wd rs ?_
    cases o with
    | ok w => exact ho
    | ex c fs => exact ⟨_, hx, ho⟩
end Dm
set_option maxHeartbeats 1000000
/-! Dm, part 56: the call of a name that holds a lambda. -/
namespace Dm
open PySem PySem.Spec PyProof.Rows L2
open Evl (Ex)
open LamX (CodeO)
open NdefX (NF CellsAt)
variable [Lams]
/-- the addresses that names stand for -/
def adrs (l : List (Str × Addr)) : List Addr := (l.map (·.1)).filterMap fun y => List.lookup y l
theorem adrs_of {l : List (Str × Addr)} {c : Addr} (h : c ∈ adrs l) : ∃ y, l.lookup y = some c := by
  obtain ⟨y, _, e⟩ := List.mem_filterMap.mp h
  exact ⟨y, e⟩
theorem of_adrs {l : List (Str × Addr)} {c : Addr} {y : Str} (h : l.lookup y = some c) : c ∈ adrs l := by
  refine List.mem_filterMap.mpr ⟨y, ?_, h⟩
  induction l with
  | nil => cases h
  | cons p r ih =>
    obtain ⟨a, b⟩ := p
    rw [List.lookup_cons] at h
    split at h
    · next e =>
      have : y = a := by simpa using e
      subst this; exact List.mem_cons_self
    · exact List.mem_cons_of_mem _ (ih h)
/-- v(e, ..), v a name that holds a lambda -/
def mCallV (i : Nat) (tab : Nat → Option (Nat × FM)) (me : AM) : EM := fun ρ m => match ρ[i]? with
  | some (some (.clo id ds)) => (match tab id with
    | some (n, F) => bnd (me ρ m) fun ws m1 => if ws.length = n ∧ ws.all W.plain = true then cut m.length (F (ws ++ ds.map Cp.w) m1) else none
    | none => none)
  | _ => none
theorem callV_eq {i : Nat} {tab : Nat → Option (Nat × FM)} {me : AM} {ρ : Slots} {m m' : Mem} {o : Out W} (q : mCallV i tab me ρ m = some (o, m')) : ∃ id ds n F, ρ[i]? = some (some (.clo id ds)) ∧ tab id = some (n, F) ∧ bnd (me ρ m) (fun ws m1 => if ws.length = n ∧ ws.all W.plain = true then cut m.length (F (ws ++ ds.map Cp.w) m1) else none) = some (o, m') := by
  unfold mCallV at q
  split at q
  · next id ds e =>
    split at q
    · next n F e2 => exact ⟨id, ds, n, F, e, e2, q⟩
    · cases q
  · cases q
theorem RepL.q {K : PySem.W.Frag} {B B' : Hp} {al : Pl} {n : Nat} (e : Exq B B') : ∀ {vs : List V} {ws : List W}, ws.all W.plain = true → RepL K B al n vs ws → RepL K B' al n vs ws
  | [], [], _, _ => trivial
  | _ :: _, _ :: _, h, r => by
    rw [List.all_cons, Bool.and_eq_true] at h
    exact ⟨r.1.q e h.1, RepL.q e h.2 r.2⟩
  | [], _ :: _, _, r => r.elim
  | _ :: _, [], _, r => r.elim
section
variable {X : Cx} {i j : Nat} {tab : Nat → Option (Nat × FM)} {x : Str} {e : PySem.Expr} {es : List PySem.Expr} {me : AM} {p pos : Pos}
theorem callV_len (L : ∀ id n F, tab id = some (n, F) → LenF F) (ha : ∀ ρ m o m', me ρ m = some (o, m') → m.length ≤ m'.length) : ∀ ρ m o m', mCallV i tab me ρ m = some (o, m') → m.length ≤ m'.length := fun ρ m o m' q => by
  obtain ⟨id, ds, n, F, _, ht, q1⟩ := callV_eq q
  rcases bnd_cases q1 with ⟨ws, m1, e1, q2⟩ | ⟨c, fs, e1, rfl⟩
  · split at q2
    · obtain ⟨m3, e3, h3⟩ := cut_eq q2
      have l1 := ha _ _ _ _ e1
      have l3 := L _ _ _ ht _ _ _ _ e3
      rcases h3 with rfl | ⟨rfl, _⟩
      · omega
      · rw [List.length_take]; omega
    · cases q2
  · exact ha _ _ _ _ e1
/-- a lambda's object is called -/
theorem clo_run {id n : Nat} {F : FM} (L : LmD X.prog X.w X.K X.mg X.base j id n F) (hr : Room j X.A) (hG : X.A.guards = some []) {B B1 : Hp} {al al1 : Pl} {m m1 m' : Mem} {σ : L2.St} {H1 : Hp} {Q : VK} {o : Out W} (h : AnsE X B al m.length σ Q m' o) (l : m.length ≤ m1.length)
    (x1 : Ex B B1) (g1 : Agr m.length al al1) (wd1 : Wd X.K B1 al1 m1 H1) {v : V} {vs : List V} {ws : List W} {ds : List Cp} (rv : RepW X.K B1 al1 m1.length v (.clo id ds)) (rs : RepL X.K B1 al1 m1.length vs ws) (hn : ws.length = n ∧ ws.all W.plain = true)
    (q : cut m.length (F (ws ++ ds.map Cp.w) m1) = some (o, m')) {pins : List (Addr × Obj)} {s : Shared} (I : Inv X pins σ H1 s) {ua : List Value} (ra : Vals vs ua) : ∃ f, v = .ref f ∧ PySem.W.FnAt f s.heap ∧ wpAny (model X.prog X.w) X.A (call (.ref f) ua) (EP X pins σ Q) X.xe s := by
  obtain ⟨f, c, cl, us, rfl, hf, hc, hcl, rd⟩ := rv
  obtain ⟨ps, hps, run⟩ := L.run
  obtain ⟨m3, e3, hm⟩ := cut_eq q
  have cz : Cz B1 (adrs cl) := fun a ha => by
    obtain ⟨y, e⟩ := adrs_of ha
    exact hcl.all y a e
  have czH : Cz H1 (adrs cl) := fun a ha => let ⟨o, v, e1, e2⟩ := cz a ha; ⟨o, v, wd1.ext _ _ e1, e2⟩
  have nf : ∀ c ob, LamO f (nfOf id cl c) (Lams.of id).body ≠ cfz c ob := fun c ob => cfz_ne (by intro _ _ z; unfold LamO at z; cases z) c ob
  have hfH := wd1.ext _ _ hf
  have fa : PySem.W.FnAt f s.heap := by
    obtain ⟨pm, ctv, ho⟩ := lamO_at I.hok hfH
    exact ⟨_, _, _, _, ho⟩
  refine ⟨f, rfl, fa, ?_⟩
  have hS : f ∉ adrs cl := cz_out czH hfH (cfz_ne (by intro _ _ z; unfold LamO at z; cases z))
  have cS : c ∉ adrs cl := cz_out cz hc codeO_cfz
  have cells : CellsAt (nfOf id cl c).cl (Lams.of id).fr (us.map some) s.heap (Hdrop H1 (adrs cl)) := by
    refine ⟨by rw [List.length_map]; exact hcl.len, fun y a e => ⟨drop_in (of_adrs e), ?_⟩, hcl.inj, fun k y e => ?_⟩
    · obtain ⟨ob, v, e1, e2⟩ := hcl.all y a e
      exact ⟨v, ob, (I.hok a _ (wd1.ext _ _ e1)).1, e2⟩
    · obtain ⟨a, ob, u, v, e1, e2, e4, e5, e6⟩ := hcl.has k y e
      refine ⟨a, e1, fun v' hv => ⟨u, ?_, ob, (I.hok a _ (wd1.ext _ _ e2)).1, e4⟩⟩
      rw [List.getElem?_map, e5] at hv
      cases hv
      exact e6
  have wdD := wd1.dropC cz
  have rsD := rs.q (drop_q cz) hn.2
  have rdD := rd.q (drop_q cz)
  have go : ∀ {E : XK}, AnsO X.K (Hdrop B1 (adrs cl)) al1 m1.length m3 (fun v H' => (∀ a, a ∈ adrs cl → H' a = none) → Q v (Hput H' H1 (adrs cl))) (fun cls d H' => (∀ a, a ∈ adrs cl → H' a = none) → E cls d (Hput H' H1 (adrs cl))) o →
      (∀ u s', L2.CX X.prog X.w X.stack H1 s E u s' → X.xe u s') → wpAny (model X.prog X.w) X.A (call (.ref f) ua) (EP X pins σ Q) X.xe s := fun {E} ans hx => by
    refine wpAny_call (codeAny_mono ((run f cl c).run X.A X.stack s (Hdrop H1 (adrs cl)) ua vs (us.map some) (fun v H' => (∀ a, a ∈ adrs cl → H' a = none) → Q v (Hput H' H1 (adrs cl))) (fun cls d H' => (∀ a, a ∈ adrs cl → H' a = none) → E cls d (Hput H' H1 (adrs cl))) hG hr (env_drop I.env0 czH) (by rw [drop_out hS]; exact hfH) (by show Hdrop H1 (adrs cl) c = _; rw [drop_out cS]; exact wd1.ext _ _ hc) cells ra
      ⟨rs.length.trans hn.1, _, al1, m1, ws, us, ds, o, m3, rfl, rdD, e3, wdD, rsD, ans⟩) fun r s' done => ?_)
    match r, done with
    | .error u, done => exact hx u s' (cx_drop czH I.hok I.stkFree done)
    | .ok (.ret u), done => exact I.after (ce_drop czH I.hok I.stkFree done)
    | .ok .next, done => exact done.elim
    | .ok .brk, done => exact done.elim
    | .ok .cont, done => exact done.elim
  have back : ∀ {B' H' : Hp} {al' : Pl}, Ex (Hdrop B1 (adrs cl)) B' → Wd X.K B' al' m3 H' → (∀ a, a ∈ adrs cl → H' a = none) → Ex B (Hput B' H1 (adrs cl)) ∧ Wd X.K (Hput B' H1 (adrs cl)) al' m3 (Hput H' H1 (adrs cl)) ∧ Ex B' (Hput B' H1 (adrs cl)) := fun {B' H' al'} x2 wd2 no => by
    refine ⟨x1.trans fun a o ea => ?_, wd2.putC no czH, put_ex (wd2.no no)⟩
    by_cases z : a ∈ adrs cl
    · rw [put_in z]; exact wd1.ext _ _ ea
    · rw [put_out z]; exact x2 a o (by rw [drop_out z]; exact ea)
  cases o with
  | ok w =>
    have hp := cut_plain q
    refine go (E := E0) (fun B' al' v' H' x2 g2 wd2 r2 no => ?_) fun u s' hq => passL pins σ H1 s u s' I hq
    obtain ⟨y1, y2, y3⟩ := back x2 wd2 no
    have gg := g1.trans g2 l
    rcases hm with rfl | ⟨rfl, hw⟩
    · exact h _ al' v' _ y1 gg y2 (RepW.mono y3 Agr.refl (Nat.le_refl _) r2)
    · refine h _ al' v' _ y1 gg (y2.take _) ?_
      cases w with
      | dat d => exact Rep.mono y3 r2
      | hdl k => exact ⟨r2.1, by rw [List.length_take]; have := hw k rfl; have := r2.2; omega⟩
      | clo i ds => cases hp
  | ex c fs =>
    obtain ⟨Wx, tk, ha⟩ := h
    refine go (E := fun cls oa H' => Wx cls oa σ H') (fun B' al' cls oa H' x2 g2 wd2 r2 no => ?_) fun u s' hq => tk u s' (XE.of_call I (fun _ _ _ z => z) hq)
    obtain ⟨y1, y2, y3⟩ := back x2 wd2 no
    have gg := g1.trans g2 l
    have rx : RepX X.K (Hput B' H1 (adrs cl)) cls oa c fs := by
      obtain ⟨z1, z2⟩ := r2
      refine ⟨z1, z2.imp (fun z => z) fun ⟨a, gs, w1, w2, w3⟩ => ⟨a, gs, w1, y3 _ _ w2, w3.mono y3⟩⟩
    rcases hm with rfl | ⟨rfl, hw⟩
    · exact ha _ al' cls oa _ y1 gg y2 rx
    · exact ha _ al' cls oa _ y1 gg (y2.take _) rx
theorem se_callV (L : ∀ id n F, tab id = some (n, F) → LmD X.prog X.w X.K X.mg X.base j id n F) (hr : Room j X.A) (hG : X.A.guards = some []) (hN : X.N[i]? = some x) (hv : Vis X.env.scope x) (ha : SA X (e :: es) me) (h0 : noStar e = true := by rfl) (h1 : es.all noStar = true := by rfl)
    (hd : (x == ("__debug__" : Str)) = false := by decide) (hcd : (x == ("__classdict__" : Str)) = false := by decide) : SE X (.Call (.Name x p) (e :: es) [] pos) (mCallV i tab me) := by
  refine ⟨callV_len (fun id n F ht => (L id n F ht).len) ha.len, fun ρ m o m' q B al σ H Q wd rs h pins s I => ?_⟩
  obtain ⟨id, ds, n, F, ei, ht, q1⟩ := callV_eq q
  obtain ⟨v, hs, rv⟩ := rs.2 i _ ei
  obtain ⟨f, c, cl, us, rfl, hf, hc, hcl, rd⟩ := rv
  refine wpAny_Call_Name_kw (thn ((pe_var (pos := p) hN hv hd hcd).run pins s σ H (fun z H1 => z = .ref f ∧ H1 = H) I ⟨_, hs, rfl, rfl⟩) fun u s1 ⟨z, H1, I1, r1, q2⟩ => ?_)
  obtain ⟨rfl, rfl⟩ := q2
  obtain rfl : u = Value.ref f := r1
  have fa : PySem.W.FnAt f s1.heap := by
    obtain ⟨pm, ctv, ho⟩ := lamO_at I1.hok (wd.ext _ _ hf)
    exact ⟨_, _, _, _, ho⟩
  refine PySem.W.callWith_F (first := []) fa (thn ((pa_w (X := X) (es := e :: es)).run pos pins s1 σ H1 _ I1 (ha.seq (Q' := fun vs H2 => ∀ (s2 : Shared) (ua : List Value), Inv X pins σ H2 s2 → Vals vs ua → PySem.W.FnAt f s2.heap ∧ wpAny (model X.prog X.w) X.A (call (.ref f) ua) (EP X pins σ Q) X.xe s2) q1 wd rs h.res fun ws m1 q3 l1 B1 al1 vs H2 x1 g1 wd1 r2 s2 ua I2 ra => ?_)) fun ua s2 ⟨vs, H2, I2, r2, q2⟩ => q2 s2 ua I2 r2) (starEach_cons h0) (star_any h1)
  split at q3
  · next hn =>
    obtain ⟨f', e', z⟩ := clo_run (L id n F ht) hr hG h l1 x1 g1 wd1 (v := .ref f) ⟨f, c, cl, us, rfl, x1 _ _ hf, x1 _ _ hc, hcl.mono x1, rd.mono x1 g1 l1⟩ r2 hn q3 I2 ra
    cases e'
    exact z
  · cases q3
end
end Dm
set_option maxHeartbeats 1000000
/-! Dm, part 57: a lambda is made. -/
namespace Dm
open PySem PySem.Spec PyProof.Rows L2
open Evl (Ex)
open LamX (CodeO TabB inv_table among_app codeO_ne)
open NdefX (NF CellsAt)
variable [Lams]
section
variable {X : Cx} {pins : List (Addr × Obj)} {σ : L2.St} {H : Hp} {s : Shared}
/-- what is known when a lambda was made: it stands at f, its code at c; the heap before, the heap now -/
inductive Made (H : Hp) (t : Addr) (ps : Array Value) (q : Str) (o : Addr → Addr → HO) (f c : Addr) : Hp → Prop
  | hit (pos : Pos) : codeAmong pos ps.toList = some (.ref c) → H f = none → Made H t ps q o f c (upd H f (o f c))
  | new (pos : Pos) : H c = none → f ≠ c → f ≠ t → H f = none → Made H t ps q o f c (upd (upd (upd H t (.tbl (ps ++ #[rawInt pos.line, rawInt pos.col, .ref c]))) c (CodeO c q)) f (o f c))
theorem lam_mk {c t : Addr} {ps : Array Value} {params : Arguments} {body : PySem.Expr} {scope : Scope} {pos : Pos} {E : Value → Shared → Prop} {Q : Value → Shared → Prop} (I : Inv X pins σ H s) (TB : TabB X.base X.mg c t) (hcode : X.env.code = .ref c) (hP : H t = some (.tbl ps)) (tri : TriplesOk ps.toList)
    (told : ∀ (pos : Pos) (cv : Value), codeAmong pos ps.toList = some cv → ∃ c, cv = .ref c ∧ H c = some (CodeO c (X.env.qual ++ "<lambda>"))) (hdef : defaultsOf params X.env = ([], [])) (hfree : ∀ y ∈ scope.names, y.2 = .free → ∃ c, X.env.cells.lookup y.1 = some c)
    (h : ∀ (f c' : Addr) (H2 : Hp) (s' : Shared), Inv X pins σ H2 s' → Made H t ps (X.env.qual ++ "<lambda>") (fun f c' => LamO f ⟨"<lambda>", X.env.qual ++ "<lambda>", params, [], scope, cloFrom X.env.cells scope.names [], c'⟩ body) f c' H2 → Q (.ref f) s') :
    wpAny (model X.prog X.w) X.A (eval (.Lambda params body scope pos) X.env) Q E s := by
  refine PySem.W.kla_eval hdef ?_
  have objT : s.heap.get? t = some { cls := .none, data := .fields ps } := I.hok t _ hP
  have gl := I.mod.glob.keeps I.bk
  have cd := TB.code.keeps I.bk
  have bm : s.heap.BuiltinsAt X.mg t := TB.bm.keeps I.bk
  have seen : ∀ {h' : Heap} {c' : Addr} {pm ctv : Value} {G : Hp}, ObjOk X.prog X.w G (h'.push (PySem.W.kla_obj "<lambda>" (X.env.qual ++ "<lambda>") params body scope (cloFrom X.env.cells scope.names []) pm c' ctv)) h'.objs.size
      (LamO h'.objs.size ⟨"<lambda>", X.env.qual ++ "<lambda>", params, [], scope, cloFrom X.env.cells scope.names [], c'⟩ body) := fun {h' c' pm ctv G} => by
    have e := Heap.get?_push_size h' (o := PySem.W.kla_obj "<lambda>" (X.env.qual ++ "<lambda>") params body scope (cloFrom X.env.cells scope.names []) pm c' ctv) rfl
    exact ⟨⟨pm, ctv, e⟩, ⟨_, e⟩, fun h1 h2 ⟨pm, ctv, z⟩ k => ⟨pm, ctv, k _ z⟩⟩
  cases look : codeAmong pos ps.toList with
  | some cv =>
    obtain ⟨c', rfl, _⟩ := told pos cv look
    refine PySem.W.kla_makeFunctionHit (closure_ok hfree) I.ok.glob gl hcode cd objT tri look bm fun ctv h' tk old big => ?_
    have noF := I.hok.fresh big
    exact h h'.objs.size c' _ _ (I.laid (t' := tk) (a := h'.objs.size) (fun b o e => Heap.get?_push_of_some _ (old b o e)) big seen) (.hit pos look noF)
  | none =>
    refine PySem.W.kla_makeFunction (closure_ok hfree) I.ok.glob gl hcode cd objT tri look TB.gP bm fun c' ctv h' tk old lo hi rec tab => ?_
    obtain ⟨c2, oc, vs, tt, e2, hoc, hd, hv⟩ := rec
    cases e2
    have big : s.heap.objs.size ≤ h'.objs.size := Nat.le_trans lo (Nat.le_of_lt hi)
    have noC := I.hok.fresh lo
    have noF := I.hok.fresh big
    have ne1 : h'.objs.size ≠ c' := Nat.ne_of_gt hi
    have ne2 : h'.objs.size ≠ t := Nat.ne_of_gt (Nat.lt_of_lt_of_le (Heap.lt_size objT) big)
    have J := inv_table (t' := tk) (more := #[rawInt pos.line, rawInt pos.col, .ref c']) (h' := h') I hP old tab lo ⟨oc, vs, tt, hoc, hd, hv⟩
    refine h h'.objs.size c' _ _ (J.laid (t' := tk) (a := h'.objs.size) (fun b o e => Heap.get?_push_of_some _ e) (Nat.le_refl _) seen) (.new pos noC ne1 ne2 noF)
end
section
variable {K : PySem.W.Frag} {B H : Hp} {al : Pl} {m : Mem}
/-- a table grows by a code object -/
theorem Wd.table (wd : Wd K B al m H) {t c : Addr} {q : Str} {ps : Array Value} {pos : Pos} (hP : H t = some (.tbl ps)) (hB : B t = none) (hfr : al.fr t = none) (tri : TriplesOk ps.toList) (told : ∀ (pos : Pos) (cv : Value), codeAmong pos ps.toList = some cv → ∃ c, cv = .ref c ∧ B c = some (CodeO c q))
    (one : ∀ p ∈ Lams.tabs, tabA K p.1 = t → p.2 = q) (hc : H c = none) : Wd K (upd B c (CodeO c q)) al m (upd (upd H t (.tbl (ps ++ #[rawInt pos.line, rawInt pos.col, .ref c]))) c (CodeO c q)) := by
  have hBc : B c = none := by
    cases e : B c with
    | none => rfl
    | some o => have := wd.ext c o e; rw [hc] at this; cases this
  have tc : t ≠ c := ne_of_none hP hc
  have ex : Ex B (upd B c (CodeO c q)) := Ex.new hBc
  have at_ : ∀ a, a ≠ t → a ≠ c → upd (upd H t (.tbl (ps ++ #[rawInt pos.line, rawInt pos.col, .ref c]))) c (CodeO c q) a = H a := fun a h1 h2 => by rw [upd_ne h2, upd_ne h1]
  refine ⟨fun a o e => ?_, fun k cc e hd => ?_, wd.inj, fun a o e => ?_, fun a ha => ?_, wd.fc, fun a o e => ?_, fun p hp => ?_⟩
  · by_cases z : a = c
    · subst z; rw [upd_same] at e ⊢; exact e
    · rw [upd_ne z] at e
      have z2 : a ≠ t := fun z2 => by rw [z2, hB] at e; cases e
      rw [at_ a z2 z]; exact wd.ext a o e
  · obtain ⟨h1, h2⟩ := wd.cell k cc e hd
    have z2 : al k ≠ t := fun z2 => wd.notTab e hd ps (by rw [z2]; exact hP)
    have z := wd.notNew hc e hd
    exact ⟨by rw [upd_ne z]; exact h1, (h2.at_ (at_ _ z2 z)).monoB ex⟩
  · have e2 := wd.fx a o e
    have z : a ≠ c := fun z => by rw [z, hc] at e2; cases e2
    have z2 : a ≠ t := fun z2 => by rw [z2, hfr] at e; cases e
    rw [at_ a z2 z]; exact e2
  · have z : a ≠ c := fun z => by
      cases e : al.fr a with
      | none => exact ha e
      | some o => have e2 := wd.fx a o e; rw [z, hc] at e2; cases e2
    rw [upd_ne z]; exact wd.fb a ha
  · by_cases z : a = c
    · subst z; rw [upd_same] at e; cases e; rfl
    · rw [upd_ne z] at e; exact wd.lk a o e
  · obtain ⟨ps', t1, t2, t3, t4, t5⟩ := wd.tb p hp
    have nc : tabA K p.1 ≠ c := ne_of_none t1 hc
    by_cases z : tabA K p.1 = t
    · have eq := one p hp z
      rw [z, hP] at t1
      cases t1
      have el : (ps ++ #[rawInt pos.line, rawInt pos.col, .ref c]).toList = ps.toList ++ [rawInt pos.line, rawInt pos.col, .ref c] := by simp
      unfold TabW
      rw [z, eq]
      refine ⟨_, by rw [upd_ne tc, upd_same], by rw [el]; exact PySem.TriplesOk_snoc _ _ _ _ tri, fun p' cv hcv => ?_, by rw [upd_ne tc]; exact hB, hfr⟩
      rw [el] at hcv
      rcases among_app _ tri hcv with w | w
      · obtain ⟨c0, e1, e2⟩ := told p' cv w
        exact ⟨c0, e1, ex _ _ e2⟩
      · exact ⟨c, w, upd_same⟩
    · exact ⟨ps', by rw [at_ _ z nc]; exact t1, t2, fun p' cv w => let ⟨c0, e1, e2⟩ := t3 p' cv w; ⟨c0, e1, ex _ _ e2⟩, by rw [upd_ne nc]; exact t4, t5⟩
end
/-- what the making of the lambda i asks of the def it stands in -/
structure LamIn (X : Cx) (i : Nat) (x : Str) : Prop where
  code : ∃ c, X.env.code = .ref c ∧ TabB X.base X.mg c (tabA X.K x)
  mem : (x, X.env.qual ++ "<lambda>") ∈ Lams.tabs
  one : ∀ p ∈ Lams.tabs, tabA X.K p.1 = tabA X.K x → p.2 = X.env.qual ++ "<lambda>"
  qual : (Lams.of i).qual = X.env.qual ++ "<lambda>"
  dflt : defaultsOf (Lams.of i).params X.env = ([], [])
  free : ∀ y ∈ (Lams.of i).scope.names, y.2 = .free → X.env.scope.names.lookup y.1 = some .cell ∨ X.env.scope.names.lookup y.1 = some .free
/-- the lambda i, just made by X: at f -/
def LamV (X : Cx) (B : Hp) (v : V) (i : Nat) : Prop := ∃ f c, v = .ref f ∧ B f = some (LamO f (nfOf i (cloFrom X.env.cells (Lams.of i).scope.names []) c) (Lams.of i).body) ∧ B c = some (CodeO c (Lams.of i).qual)
theorem LamV.mono {X : Cx} {B B' : Hp} {v : V} {i : Nat} (e : Ex B B') (h : LamV X B v i) : LamV X B' v i := let ⟨f, c, h1, h2, h3⟩ := h; ⟨f, c, h1, e _ _ h2, e _ _ h3⟩
theorem lam_e {X : Cx} {i : Nat} {x : Str} {e : PySem.Expr} {pos : Pos} (L : LamIn X i x) (he : e = .Lambda (Lams.of i).params (Lams.of i).body (Lams.of i).scope pos) {B H : Hp} {al : Pl} {m : Mem} {σ : L2.St} {Q : VK} (wd : Wd X.K B al m H)
    (h : ∀ B' v H', Ex B B' → Wd X.K B' al m H' → LamV X B' v i → Q v H') : wE X e σ H Q := by
  subst he
  intro pins s I
  obtain ⟨c, hc, TB⟩ := L.code
  obtain ⟨ps, t1, t2, t3, t4, t5⟩ := wd.tb _ L.mem
  refine lam_mk I TB hc t1 t2 (fun pos cv z => let ⟨c, e1, e2⟩ := t3 pos cv z; ⟨c, e1, wd.ext _ _ e2⟩) L.dflt (fun y hy e => (L.free y hy e).elim (fun z => I.ok.has _ (.inl z)) fun z => I.ok.has _ (.inr z)) fun f c' H2 s' J md => ?_
  refine ⟨.ref f, H2, J, rfl, ?_⟩
  have lamEq : (fun f c' => LamO f ⟨"<lambda>", X.env.qual ++ "<lambda>", (Lams.of i).params, [], (Lams.of i).scope, cloFrom X.env.cells (Lams.of i).scope.names [], c'⟩ (Lams.of i).body) = fun f c' => LamO f (nfOf i (cloFrom X.env.cells (Lams.of i).scope.names []) c') (Lams.of i).body := by
    funext f c'
    unfold nfOf
    rw [L.qual]
  rw [lamEq] at md
  cases md with
  | hit pos' hcode noF =>
    obtain ⟨c0, e1, e2⟩ := t3 pos' _ hcode
    cases e1
    have g := Gr.lay wd.ext (o := LamO f (nfOf i (cloFrom X.env.cells (Lams.of i).scope.names []) c') (Lams.of i).body) noF
    exact h _ _ _ g.b (wd.grow g) ⟨f, c', rfl, upd_same, by rw [L.qual]; exact g.b _ _ e2⟩
  | new pos' noC ne1 ne2 noF =>
    have w1 := wd.table (pos := pos') t1 t4 t5 t2 t3 L.one noC
    have hBc : B c' = none := by
      cases e : B c' with
      | none => rfl
      | some o => have := wd.ext c' o e; rw [noC] at this; cases this
    have noF2 : upd (upd H (tabA X.K x) (.tbl (ps ++ #[rawInt pos'.line, rawInt pos'.col, .ref c']))) c' (CodeO c' (X.env.qual ++ "<lambda>")) f = none := by rw [upd_ne ne1, upd_ne ne2]; exact noF
    have g := Gr.lay w1.ext (o := LamO f (nfOf i (cloFrom X.env.cells (Lams.of i).scope.names []) c') (Lams.of i).body) noF2
    refine h _ _ _ ((Ex.new hBc).trans g.b) (w1.grow g) ⟨f, c', rfl, upd_same, ?_⟩
    rw [upd_ne (Ne.symm ne1), L.qual]
    exact upd_same
end Dm
set_option maxHeartbeats 1000000
/-! Dm, part 58: a def called with lambdas among its arguments. -/
namespace Dm
open PySem PySem.Spec PyProof.Rows L2
open Evl (Ex)
open LamX (CodeO TabB)
open NdefX (NF CellsAt Caps cells_of slotAt)
variable [Lams]
/-- an argument: a value, or the lambda i (its captured names stand at the slots js) -/
inductive AW where
  | w (w : W) | lam (i : Nat) (js : List Nat)
abbrev CM := Slots → Mem → Run (List AW)
def LamA (X : Cx) (B : Hp) (v : V) (i : Nat) (js : List Nat) : Prop := LamV X B v i ∧ js.map (fun j => X.N[j]?) = (Lams.of i).fr.map some ∧ (∀ y ∈ (Lams.of i).fr, (y, NameKind.free) ∈ (Lams.of i).scope.names) ∧
  ∀ y ∈ (Lams.of i).scope.names, y.2 = .free → X.env.scope.names.lookup y.1 = some .cell ∨ X.env.scope.names.lookup y.1 = some .free
def RepA (X : Cx) (B : Hp) (al : Pl) (n : Nat) : List V → List AW → Prop
  | [], [] => True
  | v :: vs, .w w :: r => RepW X.K B al n v w ∧ RepA X B al n vs r
  | v :: vs, .lam i js :: r => LamA X B v i js ∧ RepA X B al n vs r
  | _, _ => False
def AnsC (X : Cx) (B : Hp) (al : Pl) (n : Nat) (σ : L2.St) (Q : List V → Hp → Prop) (m' : Mem) : Out (List AW) → Prop
  | .ok ws => ∀ B' al' vs H', Ex B B' → Agr n al al' → Wd X.K B' al' m' H' → RepA X B' al' m'.length vs ws → Q vs H'
  | .ex c fs => Flies X B al n σ c fs m'
structure SAC (X : Cx) (es : List PySem.Expr) (mm : CM) : Prop where
  len : ∀ ρ m o m', mm ρ m = some (o, m') → m.length ≤ m'.length
  run : ∀ ρ m o m', mm ρ m = some (o, m') → ∀ B al σ H Q, Wd X.K B al m H → RepS X.K B al m.length σ ρ → AnsC X B al m.length σ Q m' o → wA X es σ H Q
def cNil : CM := fun _ m => ret [] m
def cCons (ma : EM) (mr : CM) : CM := fun ρ m => bnd (ma ρ m) fun x m1 => bnd (mr ρ m1) fun xs m2 => ret (.w x :: xs) m2
def cLam (i : Nat) (js : List Nat) (mr : CM) : CM := fun ρ m => bnd (mr ρ m) fun xs m2 => ret (.lam i js :: xs) m2
theorem LamA.mono {X : Cx} {B B' : Hp} {v : V} {i : Nat} {js : List Nat} (e : Ex B B') (h : LamA X B v i js) : LamA X B' v i js := ⟨h.1.mono e, h.2⟩
theorem RepA.mono {X : Cx} {B B' : Hp} {al al' : Pl} {n n' : Nat} (e : Ex B B') (g : Agr n al al') (hl : n ≤ n') : ∀ {vs : List V} {ws : List AW}, RepA X B al n vs ws → RepA X B' al' n' vs ws
  | [], [], _ => trivial
  | _ :: _, .w _ :: _, h => ⟨RepW.mono e g hl h.1, RepA.mono e g hl h.2⟩
  | _ :: _, .lam _ _ :: _, h => ⟨LamA.mono e h.1, RepA.mono e g hl h.2⟩
  | [], .w _ :: _, h => h.elim
  | [], .lam _ _ :: _, h => h.elim
  | _ :: _, [], h => h.elim
theorem SAC.seq {X : Cx} {es : List PySem.Expr} {mm : CM} {B : Hp} {al : Pl} {σ : L2.St} {H : Hp} {ρ : Slots} {m m' : Mem} {β : Type} {o : Out β} {k : List AW → Mem → Run β} {Q' : List V → Hp → Prop} (h : SAC X es mm) (hr : bnd (mm ρ m) k = some (o, m')) (wd : Wd X.K B al m H) (rs : RepS X.K B al m.length σ ρ) (hx : Res X B al m.length σ m' o)
    (hk : ∀ ws m1, k ws m1 = some (o, m') → m.length ≤ m1.length → ∀ B' al' vs H', Ex B B' → Agr m.length al al' → Wd X.K B' al' m1 H' → RepA X B' al' m1.length vs ws → Q' vs H') : wA X es σ H Q' := by
  rcases bnd_cases hr with ⟨w, m1, e1, e2⟩ | ⟨c, fs, e1, rfl⟩
  · exact h.run ρ m _ _ e1 B al σ H Q' wd rs (hk w m1 e2 (h.len _ _ _ _ e1))
  · exact h.run ρ m _ _ e1 B al σ H Q' wd rs (hx c fs rfl)
section
variable {X : Cx} {e : PySem.Expr} {es : List PySem.Expr} {me : EM} {mr : CM} {pos : Pos}
theorem sac_nil : SAC X [] cNil := ⟨fun ρ m o m' q => by cases q; exact Nat.le_refl _, fun ρ m o m' q B al σ H Q wd rs h pos pins s I => by
  cases q
  exact pa_nil.run pos pins s σ H Q I (h B al [] H (Ex.refl B) Agr.refl wd trivial)⟩
theorem sac_cons (ha : SE X e me) (hr : SAC X es mr) (hs : noStar e = true := by rfl) : SAC X (e :: es) (cCons me mr) := by
  refine ⟨fun ρ m o m' q => bnd_len q (ha.len ρ m) fun x m1 q1 => bnd_len q1 (hr.len ρ m1) fun y m2 q2 => by cases q2; exact Nat.le_refl _, fun ρ m o m' q B al σ H Q wd rs h pos pins s I => (pa_cons pe_w pa_w (starEach_cons hs)).run pos pins s σ H Q I ?_⟩
  refine ha.seq q wd rs (fun c fs z => by subst z; exact h) fun x m1 q1 l1 B1 al1 v1 H1 e1 g1 wd1 r1 => ?_
  refine hr.seq q1 wd1 (rs.mono e1 g1 l1) (fun c fs z => by subst z; exact Flies.mono e1 g1 l1 h) fun y m2 q2 l2 B2 al2 vs2 H2 e2 g2 wd2 r2 => ?_
  cases q2
  exact h B2 al2 (v1 :: vs2) H2 (e1.trans e2) (g1.trans g2 l1) wd2 ⟨r1.mono e2 g2 l2, r2⟩
theorem sac_lam {i : Nat} {js : List Nat} {x : Str} (L : LamIn X i x) (hjs : js.map (fun j => X.N[j]?) = (Lams.of i).fr.map some) (hfr : ∀ y ∈ (Lams.of i).fr, (y, NameKind.free) ∈ (Lams.of i).scope.names) (he : e = .Lambda (Lams.of i).params (Lams.of i).body (Lams.of i).scope pos) (hr : SAC X es mr) : SAC X (e :: es) (cLam i js mr) := by
  have hs : noStar e = true := by subst he; rfl
  refine ⟨fun ρ m o m' q => bnd_len q (hr.len ρ m) fun y m2 q2 => by cases q2; exact Nat.le_refl _, fun ρ m o m' q B al σ H Q wd rs h pos pins s I => (pa_cons pe_w pa_w (starEach_cons hs)).run pos pins s σ H Q I ?_⟩
  refine lam_e L he wd fun B1 v1 H1 e1 wd1 lv => ?_
  refine hr.seq q wd1 (rs.mono e1 Agr.refl (Nat.le_refl _)) (fun c fs z => by subst z; exact Flies.mono e1 Agr.refl (Nat.le_refl _) h) fun y m2 q2 l2 B2 al2 vs2 H2 e2 g2 wd2 r2 => ?_
  cases q2
  exact h B2 al2 (v1 :: vs2) H2 (e1.trans e2) g2 wd2 ⟨⟨lv.mono e2, hjs, hfr, L.free⟩, r2⟩
end
/-! ### what is captured -/
def capD (ρ : Slots) : List Nat → Option (List Cp)
  | [] => some []
  | j :: js => match ρ[j]? with
    | some (some (.dat d)) => (capD ρ js).map (.d d :: ·)
    | some (some (.hdl k)) => (capD ρ js).map (.h k :: ·)
    | _ => none
def resA (ρ : Slots) : List AW → Option (List W)
  | [] => some []
  | .w w :: r => (resA ρ r).map (w :: ·)
  | .lam i js :: r => match capD ρ js, resA ρ r with
    | some ds, some ws => some (.clo i ds :: ws)
    | _, _ => none
theorem capD_rep {K : PySem.W.Frag} {B : Hp} {al : Pl} {n : Nat} {σ : L2.St} {ρ : Slots} (rs : RepS K B al n σ ρ) : ∀ {js : List Nat} {ds : List Cp}, capD ρ js = some ds → ∃ us : List V, js.map (slotAt σ) = us.map some ∧ RepCp K B al.at_ n us ds
  | [], _, h => by cases h; exact ⟨[], rfl, trivial⟩
  | j :: js, ds, h => by
    unfold capD at h
    split at h
    · next d e =>
      cases q : capD ρ js with
      | none => rw [q] at h; cases h
      | some es =>
        rw [q] at h
        cases h
        obtain ⟨us, h1, h2⟩ := capD_rep rs q
        obtain ⟨v, h3, h4⟩ := rs.2 j _ e
        refine ⟨v :: us, ?_, h4, h2⟩
        rw [List.map_cons, List.map_cons, h1, NdefX.slotAt_of h3]
    · next k e =>
      cases q : capD ρ js with
      | none => rw [q] at h; cases h
      | some es =>
        rw [q] at h
        cases h
        obtain ⟨us, h1, h2⟩ := capD_rep rs q
        obtain ⟨v, h3, h4⟩ := rs.2 j _ e
        refine ⟨v :: us, ?_, h4, h2⟩
        rw [List.map_cons, List.map_cons, h1, NdefX.slotAt_of h3]
    · cases h
/-- the cells that the arguments' lambdas see -/
def lamCells (X : Cx) : List AW → List Addr
  | [] => []
  | .w _ :: r => lamCells X r
  | .lam i _ :: r => adrs (cloFrom X.env.cells (Lams.of i).scope.names []) ++ lamCells X r
def cellsC (h : Heap) : Hp := fun a => (h.get? a).map (cfz a)
theorem repA_res {X : Cx} {B H : Hp} {al : Pl} {n : Nat} {σ : L2.St} {ρ : Slots} {pins : List (Addr × Obj)} {s : Shared} {S : List Addr} (I : Inv X pins σ H s) (rs : RepS X.K B al n σ ρ) (no : ∀ a, a ∈ S → B a = none) :
    ∀ {vs : List V} {aws : List AW} {ws : List W}, RepA X B al n vs aws → resA ρ aws = some ws → (∀ a ∈ lamCells X aws, a ∈ S) → RepL X.K (Hput B (cellsC s.heap) S) al n vs ws
  | [], [], _, _, h, _ => by cases h; trivial
  | v :: vs, .w w :: r, ws, ra, h, hS => by
    have h' : (resA ρ r).map (w :: ·) = some ws := h
    cases q : resA ρ r with
    | none => rw [q] at h'; cases h'
    | some zs =>
      rw [q] at h'
      cases h'
      exact ⟨RepW.mono (put_ex no) Agr.refl (Nat.le_refl _) ra.1, repA_res I rs no ra.2 q hS⟩
  | v :: vs, .lam i js :: r, ws, ra, h, hS => by
    unfold resA at h
    split at h
    · next ds zs hd hz =>
      cases h
      obtain ⟨⟨⟨f, c, rfl, hf, hc⟩, hjs, hfr, hfree⟩, r2⟩ := ra
      refine ⟨?_, repA_res I rs no r2 hz fun a ha => hS a (List.mem_append_right _ ha)⟩
      have ex := put_ex (C := cellsC s.heap) no
      obtain ⟨us, hu, ru⟩ := capD_rep rs hd
      have caps := Caps.made (scope := (Lams.of i).scope) I.ok hfree hfr hjs
      have ca := cells_of I caps
      rw [hu] at ca
      refine ⟨f, c, _, us, rfl, ex _ _ hf, ex _ _ hc, ?_, ru.mono ex Agr.refl (Nat.le_refl _)⟩
      have inS : ∀ {y a}, (cloFrom X.env.cells (Lams.of i).scope.names []).lookup y = some a → a ∈ S := fun {y a} e => hS a (List.mem_append_left _ (of_adrs e))
      have at_ : ∀ {a o}, a ∈ S → s.heap.get? a = some o → Hput B (cellsC s.heap) S a = some (cfz a o) := fun {a o} ha e => by
        rw [put_in ha]; unfold cellsC; rw [e]; rfl
      refine ⟨by have := ca.len; rw [List.length_map] at this; exact this, fun y a e => ?_, ca.inj, fun k y e => ?_⟩
      · obtain ⟨_, v, o, ho, hd⟩ := ca.all y a e
        exact ⟨o, v, at_ (inS e) ho, hd⟩
      · obtain ⟨a, e1, e2⟩ := ca.has k y e
        have hk : k < us.length := by
          have := ca.len
          rw [List.length_map] at this
          rw [this]
          exact (List.getElem?_eq_some_iff.mp e).1
        obtain ⟨v, hv⟩ : ∃ v, us[k]? = some v := ⟨us[k], List.getElem?_eq_getElem hk⟩
        obtain ⟨u, r, o, ho, hd⟩ := e2 v (by rw [List.getElem?_map, hv]; rfl)
        exact ⟨a, o, u, v, e1, at_ (inS e1) ho, hd, hv, r⟩
    · cases h
  | [], .w _ :: _, _, ra, _, _ => ra.elim
  | [], .lam _ _ :: _, _, ra, _, _ => ra.elim
  | _ :: _, [], _, ra, _, _ => ra.elim
/-- the running frame's cells are apart from what stood before -/
def FarC (X : Cx) : Prop := X.Ok → ∀ y c, X.env.cells.lookup y = some c → c ∉ X.fs ∧ X.base.get? c = none
theorem far_of {X : Cx} (h : X.fn = fun _ => true) : FarC X := fun ok y c e => by
  have big := ok.cab y c (by rw [h]) e
  refine ⟨fun z => ?_, ?_⟩
  · obtain ⟨_, o, ho, _⟩ := ok.funs.mem z
    exact Nat.lt_irrefl _ (Nat.lt_of_lt_of_le (Heap.lt_size ho) big)
  · cases e : X.base.get? c with
    | none => rfl
    | some o => exact (Nat.lt_irrefl _ (Nat.lt_of_lt_of_le (Nat.lt_of_lt_of_le (Heap.lt_size e) ok.bsz) big)).elim
def mDefC (n : Nat) (gW : List W → List W → List W) (mf : FM) (mc : CM) : EM := fun ρ m => bnd (mc ρ m) fun aws m1 => match resA ρ aws with
  | some ws => if ws.length = n then cut m.length (mf (gW ws []) m1) else none
  | none => none
theorem lam_cells {X : Cx} {B : Hp} {al : Pl} {n : Nat} (ok : X.Ok) : ∀ {vs : List V} {aws : List AW}, RepA X B al n vs aws → ∀ a ∈ lamCells X aws, ∃ y, X.env.cells.lookup y = some a
  | [], [], _, a, h => by cases h
  | _ :: _, .w _ :: _, r, a, h => lam_cells ok r.2 a h
  | _ :: _, .lam i js :: _, r, a, h => by
    rcases List.mem_append.mp h with h | h
    · obtain ⟨y, e⟩ := adrs_of h
      obtain ⟨⟨_, hjs, hfr, hfree⟩, _⟩ := r
      exact ⟨y, (Caps.made (scope := (Lams.of i).scope) ok hfree hfr hjs).sub y a e⟩
    · exact lam_cells ok r.2 a h
  | [], .w _ :: _, r, _, _ => r.elim
  | [], .lam _ _ :: _, r, _, _ => r.elim
  | _ :: _, [], r, _, _ => r.elim
section
variable {X : Cx} {e : PySem.Expr} {es : List PySem.Expr} {mc : CM} {pos p : Pos} {x : Str} {k n : Nat} {f : Addr} {fd : FuncData} {ps : List Str} {mf : FM} {gW : List W → List W → List W}
theorem callC_run (F : FnG X.prog X.w X.K X.mg X.base k f fd ps (spM X.K ps.length mf)) (hr : Room k X.A) (hG : X.A.guards = some []) (hb : Bdg X.K fd ps n [] gW) (far : FarC X)
    {B B2 : Hp} {al al2 : Pl} {m m2 m' : Mem} {σ : L2.St} {ρ : Slots} {H2 : Hp} {Q : VK} {o : Out W} (h : AnsE X B al m.length σ Q m' o) (l : m.length ≤ m2.length) (x2 : Ex B B2) (g2 : Agr m.length al al2) (wd2 : Wd X.K B2 al2 m2 H2) (rs : RepS X.K B2 al2 m2.length σ ρ) {vs : List V} {aws : List AW} {ws : List W}
    (ra : RepA X B2 al2 m2.length vs aws) (hres : resA ρ aws = some ws) (hl : ws.length = n) (q : cut m.length (mf (gW ws []) m2) = some (o, m')) {pins : List (Addr × Obj)} {s : Shared} (I : Inv X pins σ H2 s) {uv : List Value} (rv : Vals vs uv) : wpAny (model X.prog X.w) X.A (call (.ref f) uv) (EP X pins σ Q) X.xe s := by
  obtain ⟨g, gV, hbn, hvl, hrel⟩ := hb.ex
  obtain ⟨m3, e3, hm⟩ := cut_eq q
  have sees := lam_cells I.ok ra
  have noH : ∀ a, a ∈ lamCells X aws → H2 a = none := fun a ha => let ⟨y, e⟩ := sees a ha; I.freeC y a e
  have noB := wd2.no noH
  have cellAt : ∀ a, a ∈ lamCells X aws → ∃ ob v, s.heap.get? a = some ob ∧ ob.data = .cell v := fun a ha => by
    obtain ⟨y, e⟩ := sees a ha
    obtain ⟨v, ob, h1, h2⟩ := I.cell y a e
    exact ⟨ob, v, h1, h2⟩
  have czC : ∀ a, a ∈ lamCells X aws → ∃ ob v, cellsC s.heap a = some (cfz a ob) ∧ s.heap.get? a = some ob ∧ ob.data = .cell v := fun a ha => by
    obtain ⟨ob, v, h1, h2⟩ := cellAt a ha
    exact ⟨ob, v, by unfold cellsC; rw [h1]; rfl, h1, h2⟩
  have cz : Cz (cellsC s.heap) (lamCells X aws) := fun a ha => let ⟨ob, v, h1, _, h3⟩ := czC a ha; ⟨ob, v, h1, h3⟩
  have nst : ∀ a, a ∈ lamCells X aws → a ∉ frs X.stack := fun a ha z => by
    obtain ⟨y, e⟩ := sees a ha
    rcases List.mem_cons.mp (I.stkSub a z) with w | w
    · exact I.cne y a e w
    · exact (far I.ok y a e).1 w
  have no2 : ∀ a, a ∈ lamCells X aws → H2 a = none ∧ a ∉ frs X.stack := fun a ha => ⟨noH a ha, nst a ha⟩
  have no3 : ∀ a, a ∈ lamCells X aws → H2 a = none ∧ X.base.get? a = none ∧ a ∉ frs X.stack := fun a ha => by
    obtain ⟨y, e⟩ := sees a ha
    exact ⟨noH a ha, (far I.ok y a e).2, nst a ha⟩
  have rl := repA_res I rs noB ra hres fun a ha => ha
  have wdP := wd2.putC noH cz
  have lv : vs.length = n := (RepL.length rl).trans hl
  have hlen : (gV vs []).length = ps.length := hvl vs [] lv rfl
  have back : ∀ {B' H' : Hp} {al' : Pl}, Ex (Hput B2 (cellsC s.heap) (lamCells X aws)) B' → Wd X.K B' al' m3 H' → Cz B' (lamCells X aws) ∧ Ex B (Hdrop B' (lamCells X aws)) ∧ Wd X.K (Hdrop B' (lamCells X aws)) al' m3 (Hdrop H' (lamCells X aws)) := fun {B' H' al'} y wd' => by
    have cz' : Cz B' (lamCells X aws) := fun a ha => let ⟨ob, v, h1, h2⟩ := cz a ha; ⟨ob, v, y _ _ (by rw [put_in ha]; exact h1), h2⟩
    refine ⟨cz', x2.trans fun a ob ea => ?_, wd'.dropC cz'⟩
    have z : a ∉ lamCells X aws := fun z => by rw [noB a z] at ea; cases ea
    rw [drop_out z]
    exact y a ob (by rw [put_out z]; exact ea)
  have go : ∀ {E : XK}, AnsO X.K (Hput B2 (cellsC s.heap) (lamCells X aws)) al2 m2.length m3 (fun v H' => Cz H' (lamCells X aws) → Q v (Hdrop H' (lamCells X aws))) (fun cls d H' => Cz H' (lamCells X aws) → E cls d (Hdrop H' (lamCells X aws))) o →
      (∀ u s', L2.CX X.prog X.w X.stack H2 s E u s' → X.xe u s') → wpAny (model X.prog X.w) X.A (call (.ref f) uv) (EP X pins σ Q) X.xe s := fun {E} ans hx => by
    have sp : spM X.K ps.length mf (gV vs []) (Hput H2 (cellsC s.heap) (lamCells X aws)) (fun v H' => Cz H' (lamCells X aws) → Q v (Hdrop H' (lamCells X aws))) (fun cls d H' => Cz H' (lamCells X aws) → E cls d (Hdrop H' (lamCells X aws))) := by
      refine ⟨hlen, _, al2, m2, gW ws [], o, m3, e3, wdP, hrel _ al2 m2.length vs [] ws [] lv rfl rl trivial, ?_⟩
      cases o with
      | ok w => exact ans
      | ex c fs => exact ans
    have run := F.run X.A X.stack s (Hput H2 (cellsC s.heap) (lamCells X aws)) ⟨uv, []⟩ (g uv []) (gV vs []) _ _ hG hr (env_put I.env0 no3 fun a ha => let ⟨ob, v, h1, h2, _⟩ := czC a ha; ⟨ob, h1, h2⟩) (hbn.to s uv [] I.kIn (rv.length.symm.trans lv) rfl) (hbn.rel rv .nil) sp
    refine wpAny_call (codeAny_mono run fun r s' done => ?_)
    match r, done with
    | .error u, done => exact hx u s' (cx_put no2 czC done)
    | .ok (.ret u), done => exact I.after (ce_put no2 czC done)
    | .ok .next, done => exact done.elim
    | .ok .brk, done => exact done.elim
    | .ok .cont, done => exact done.elim
  cases o with
  | ok w =>
    have hp := cut_plain q
    refine go (E := E0) (fun B' al' v' H' y g3 wd3 r3 _ => ?_) fun u s' hq => passL pins σ H2 s u s' I hq
    obtain ⟨cz', y1, y2⟩ := back y wd3
    have gg := g2.trans g3 l
    have r4 := RepW.q (drop_q cz') hp r3
    rcases hm with rfl | ⟨rfl, hw⟩
    · exact h _ al' v' _ y1 gg y2 r4
    · refine h _ al' v' _ y1 gg (y2.take _) ?_
      cases w with
      | dat d => exact r4
      | hdl k => exact ⟨r4.1, by rw [List.length_take]; have := hw k rfl; have := r4.2; omega⟩
      | clo i ds => cases hp
  | ex c fs =>
    obtain ⟨Wx, tk, ha⟩ := h
    refine go (E := fun cls oa H' => Wx cls oa σ H') (fun B' al' cls oa H' y g3 wd3 r3 _ => ?_) fun u s' hq => tk u s' (XE.of_call I (fun _ _ _ z => z) hq)
    obtain ⟨cz', y1, y2⟩ := back y wd3
    have gg := g2.trans g3 l
    have rx : RepX X.K (Hdrop B' (lamCells X aws)) cls oa c fs := by
      obtain ⟨z1, z2⟩ := r3
      refine ⟨z1, z2.imp (fun z => z) fun ⟨a, gs, w1, w2, w3⟩ => ⟨a, gs, w1, drop_q cz' _ _ w2 (cfz_ne (by intro _ _ z; cases z)), w3.q (drop_q cz')⟩⟩
    rcases hm with rfl | ⟨rfl, hw⟩
    · exact ha _ al' cls oa _ y1 gg y2 rx
    · exact ha _ al' cls oa _ y1 gg (y2.take _) rx
/-- f(e, ..), lambdas among the arguments -/
theorem se_callC (F : FnG X.prog X.w X.K X.mg X.base k f fd ps (spM X.K ps.length mf)) (L : LenF mf) (hr : Room k X.A) (hG : X.A.guards = some []) (hb : Bdg X.K fd ps n [] gW) (far : FarC X) (hg : Gl X x) (hm : X.mg x = some (.ref f)) (hk : PySem.W.keepIn X.K (.ref f) = true)
    (ha : SAC X (e :: es) mc) (h0 : noStar e = true := by rfl) (h1 : es.all noStar = true := by rfl) (hdb : (x == ("__debug__" : Str)) = false := by decide) : SE X (.Call (.Name x p) (e :: es) [] pos) (mDefC n gW mf mc) := by
  refine ⟨fun ρ m o m' q => ?_, fun ρ m o m' q B al σ H Q wd rs h pins s I => ?_⟩
  · rcases bnd_cases q with ⟨aws, m1, e1, q1⟩ | ⟨c, fs, e1, rfl⟩
    · split at q1
      · split at q1
        · obtain ⟨m3, e3, h3⟩ := cut_eq q1
          have l1 := ha.len _ _ _ _ e1
          have l3 := L _ _ _ _ e3
          rcases h3 with rfl | ⟨rfl, _⟩
          · omega
          · rw [List.length_take]; omega
        · cases q1
      · cases q1
    · exact ha.len _ _ _ _ e1
  · refine wpAny_Call_Name_kw (ld_glob I hg hm ?_ hdb)
    refine PySem.W.callWith_K (h₀ := X.base) I.ok.mod.kin hk (thn (ha.seq (Q' := fun vs H1 => ∀ pins s1 us, Inv X pins σ H1 s1 → Vals vs us → wpAny (model X.prog X.w) X.A (call (.ref f) us) (EP X pins σ Q) X.xe s1) q wd rs h.res (fun aws m1 q1 l1 B1 al1 vs1 H1 e1 g1 wd1 r1 pins s1 us I1 ru => ?_) pos pins s I)
      fun us s1 ⟨vs, H1, I1, r, q⟩ => ⟨I1.kIn, q pins s1 us I1 r⟩) (starEach_cons h0) (star_any h1)
    split at q1
    · next ws hres =>
      split at q1
      · next hl => exact callC_run F hr hG hb far h l1 e1 g1 wd1 (rs.mono e1 g1 l1) r1 hres hl q1 I1 ru
      · cases q1
    · cases q1
end
variable {X : Cx} {N : List Str} {sc : Scope} {k : Nat} {fn : Str → Bool}
/-- the short words -/
theorem Good.callC (g : Good X N sc k fn) {x : Str} {j : Nat} {ps : List Str} {mf : FM} {e : PySem.Expr} {es : List PySem.Expr} {mc : CM} {p pos : Pos} (F : DefOk X.prog X.w X.K X.mg X.base x j ps mf) (far : FarC X) (hj : Nat.ble j k = true) (hg : sc.names.lookup x = some .globalImplicit) (hm : X.mg x = some (.ref (He.ga X.K x)))
    (ha : SAC X (e :: es) mc) (h0 : noStar e = true := by rfl) (h1 : es.all noStar = true := by rfl) (hdb : (x == ("__debug__" : Str)) = false := by decide) : SE X (.Call (.Name x p) (e :: es) [] pos) (mDefC ps.length (fun ws _ => ws) mf mc) := by
  obtain ⟨fd, G, kp, b⟩ := F.ex
  exact se_callC (G.mono (Nat.le_of_ble_eq_true hj)) F.len g.room g.gd b far (g.gl hg) hm kp ha h0 h1 hdb
theorem Good.callV (g : Good X N sc k fn) (i : Nat) {j : Nat} {tab : Nat → Option (Nat × FM)} {x : Str} {e : PySem.Expr} {es : List PySem.Expr} {me : AM} {p pos : Pos} (L : ∀ id n F, tab id = some (n, F) → LmD X.prog X.w X.K X.mg X.base j id n F) (hj : Nat.ble j k = true) (h : vB N sc i x = true) (ha : SA X (e :: es) me) (h0 : noStar e = true := by rfl) (h1 : es.all noStar = true := by rfl) :
    SE X (.Call (.Name x p) (e :: es) [] pos) (mCallV i tab me) := by
  unfold vB at h
  rw [Bool.and_eq_true, Bool.and_eq_true, Bool.and_eq_true, Bool.not_eq_true', Bool.not_eq_true'] at h
  exact se_callV L (g.room.mono (Nat.le_of_ble_eq_true hj)) g.gd (by rw [g.N]; exact of_decide_eq_true h.1.1.1) (by rw [g.sc]; exact vis_of h.1.1.2) ha h0 h1 h.1.2 h.2
end Dm
set_option maxHeartbeats 1000000
/-! Dm, part 59: the head of a law whose defs hold lambdas; such a def keeps its mirror. -/
namespace Dm
open PySem PySem.Spec PyProof.Rows L2
open LamX (TabB)
def isTab : Option Obj → Bool
  | some ⟨.none, none, .fields vs, sl⟩ => vs.isEmpty && sl.isEmpty
  | _ => false
theorem isTab_eq {o : Option Obj} (h : isTab o = true) : o = some tab0 := by
  unfold isTab at h
  split at h
  · next vs sl =>
    rw [Bool.and_eq_true] at h
    rw [Array.isEmpty_iff.mp h.1, Array.isEmpty_iff.mp h.2]
  · cases h
def isStrV : Value → Bool
  | .str _ _ => true
  | _ => false
def isIntV : Value → Bool
  | .int _ _ => true
  | _ => false
def isBoolV : Value → Bool
  | .bool _ => true
  | _ => false
def codeHdB (K : PySem.W.Frag) (c t : Addr) : Bool := match K.lookup c with
  | some ⟨.type ty, _, .fields vs, _⟩ => decide (ty = "code") && decide (vs[11]? = some (.ref t)) && isStrV (vs.getD 18 .none) && isIntV (vs.getD 7 .none) && isBoolV (vs.getD 9 .none) && isIntV (vs.getD 10 .none) && decide (c ≠ t)
  | _ => false
theorem codeHd_of {K : PySem.W.Frag} {c t : Addr} (h : codeHdB K c t = true) {hp : Heap} (hk : K.In hp) : PySem.W.CodeHd hp c t := by
  unfold codeHdB at h
  split at h
  · next ty od vs sl e =>
    simp only [Bool.and_eq_true, decide_eq_true_eq] at h
    obtain ⟨⟨⟨⟨⟨⟨h1, h2⟩, h3⟩, h4⟩, h5⟩, h6⟩, h7⟩ := h
    have g11 : vs.getD 11 .none = .ref t := by
      rw [Array.getD_eq_getD_getElem?, h2]; rfl
    cases e3 : vs.getD 18 .none <;> rw [e3] at h3 <;> first | cases h3 | skip
    cases e4 : vs.getD 7 .none <;> rw [e4] at h4 <;> first | cases h4 | skip
    cases e5 : vs.getD 9 .none <;> rw [e5] at h5 <;> first | cases h5 | skip
    cases e6 : vs.getD 10 .none <;> rw [e6] at h6 <;> first | cases h6 | skip
    exact ⟨_, vs, _, _, _, _, _, _, _, hk _ _ e, by rw [h1], rfl, h2, g11, e3, e4, e5, e6, h7⟩
  · cases h
def lamB (K : PySem.W.Frag) (x : Str) : Bool := match K.lookup (He.ga K x) with
  | some ⟨_, _, .func fd, _⟩ => (match fd.code with
    | .ref c => codeHdB K c (tabA K x)
    | _ => false)
  | _ => false
def tzB (tb : List (Str × Str)) (K : PySem.W.Frag) : Bool := tb.all fun p => lamB K p.1 && tb.all fun p' => decide (tabA K p'.1 ≠ tabA K p.1) || decide (p'.2 = p.2)
abbrev asZ (g : Addr → Option Obj) (n : Nat) : List Addr := (He.asD g n).filter fun a => !isTab (g a)
abbrev frZ (g : Addr → Option Obj) (n : Nat) : PySem.W.Frag := He.frG g (asZ g n)
def obsZ (n : Nat) (fa : List He.Fa) (fn : List He.DefD) (ex : PySem.W.Frag → Bool) (pg : List PgD) (tb : List (Str × Str)) (g : Addr → Option Obj) : AlY :=
  (He.obsD fa fn (frZ g n), (ex (frZ g n) && (pg.all (fun d => d.ok (frZ g n)) && (tzB tb (frZ g n) && tb.all fun p => isTab (g (tabA (frZ g n) p.1)) && ((frZ g n).lookup (tabA (frZ g n) p.1)).isNone)), pg.map fun d => fnWA (frZ g n) (pgA (frZ g n) d.c d.f)))
structure SaysZ (fa : List He.Fa) (fn : List He.DefD) (ex : PySem.W.Frag → Bool) (pg : List PgD) (tb : List (Str × Str)) (K : PySem.W.Frag) (h : Heap) : Prop where
  inK : K.In h
  y : SaysY fa fn ex pg K
  tz : tzB tb K = true
  tab : ∀ p ∈ tb, h.get? (tabA K p.1) = some tab0 ∧ K.lookup (tabA K p.1) = none
def hookZ (n : Nat) (fa : List He.Fa) (fn : List He.DefD) (ex : PySem.W.Frag → Bool) (pg : List PgD) (tb : List (Str × Str)) : PySem.W.Hook where
  α := AlY
  obs := fun s => obsZ n fa fn ex pg tb s.heap.get?
  val := fun _ => valY fn pg
  says := fun _ h => ∃ K : PySem.W.Frag, SaysZ fa fn ex pg tb K h
  of := fun _ s e => by
    have e1 := congrArg (fun z : AlY => z.1) e
    have e2 := congrArg (fun z : AlY => z.2.1) e
    have e3 := congrArg (fun z : AlY => z.2.2) e
    obtain ⟨h1, h2⟩ := Bool.and_eq_true_iff.mp e2
    obtain ⟨h2, h3⟩ := Bool.and_eq_true_iff.mp h2
    obtain ⟨h3, h4⟩ := Bool.and_eq_true_iff.mp h3
    refine ⟨_, He.frG_in, ⟨e1, h1, fun i d hd => PgD.both ?_ (List.all_eq_true.mp h2 d (List.mem_of_getElem? hd))⟩, h3, fun p hp => ?_⟩
    · have e4 := congrArg (fun l : List He.FnW => l[i]?) e3
      have e5 : (pg.map fun d => fnWA (frZ s.heap.get? n) (pgA (frZ s.heap.get? n) d.c d.f))[i]? = (pg.map PgD.val)[i]? := e4
      rw [List.getElem?_map, List.getElem?_map, hd] at e5
      exact Option.some.inj e5
    · obtain ⟨z1, z2⟩ := Bool.and_eq_true_iff.mp (List.all_eq_true.mp h4 p hp)
      exact ⟨isTab_eq z1, Option.isNone_iff_eq_none.mp z2⟩
  keeps := fun _ _ _ ⟨K, c⟩ k => ⟨K, PySem.W.Frag.In.keeps c.inK k, c.y, c.tz, fun p hp => ⟨k _ _ (c.tab p hp).1, (c.tab p hp).2⟩⟩
theorem obsZ_eq {n : Nat} {fa : List He.Fa} {fn : List He.DefD} {ex : PySem.W.Frag → Bool} {pg : List PgD} {tb : List (Str × Str)} {g : Addr → Option Obj} {s : Shared} (h : ∀ a, g a = s.heap.get? a) : obsZ n fa fn ex pg tb g = (hookZ n fa fn ex pg tb).obs s := by
  have e : g = s.heap.get? := funext h
  rw [e] <;> rfl
theorem lamB_at {K : PySem.W.Frag} {x : Str} (h : lamB K x = true) : ∃ (oc : Value) (od : Option Addr) (fd : FuncData) (sl : Array (Option Value)) (c : Addr), K.lookup (He.ga K x) = some ⟨oc, od, .func fd, sl⟩ ∧ fd.code = .ref c ∧ codeHdB K c (tabA K x) = true := by
  unfold lamB at h
  split at h
  · next oc od fd sl e =>
    split at h
    · next c e2 => exact ⟨oc, od, fd, sl, c, e, e2, h⟩
    · cases h
  · cases h
theorem saysZ_tab {fa : List He.Fa} {fn : List He.DefD} {ex : PySem.W.Frag → Bool} {pg : List PgD} {tb : List (Str × Str)} {K : PySem.W.Frag} {h : Heap} (Z : SaysZ fa fn ex pg tb K h) : ∀ t ∈ tb.map (fun p => tabA K p.1), h.get? t = some tab0 ∧ K.lookup t = none ∧ isCodeTable h t := fun t ht => by
  obtain ⟨p, hp, rfl⟩ := List.mem_map.mp ht
  obtain ⟨h1, h2⟩ := Z.tab p hp
  refine ⟨h1, h2, ?_⟩
  have := List.all_eq_true.mp Z.tz p hp
  rw [Bool.and_eq_true] at this
  obtain ⟨oc, od, fd, sl, c, _, _, e⟩ := lamB_at this.1
  exact ((codeHd_of e Z.inK).tab h1).isCodeTable
variable [Lams]
/-- the tables, for a law's defs -/
structure Tz (K : PySem.W.Frag) (mg : Str → Option Value) (bs : Heap) : Prop where
  b : Bs K mg (tabsOf K) bs
  z : tzB Lams.tabs K = true
theorem Tz.at_ {K : PySem.W.Frag} {mg : Str → Option Value} {bs : Heap} (T : Tz K mg bs) {p : Str × Str} (hp : p ∈ Lams.tabs) : ∃ (oc : Value) (od : Option Addr) (fd : FuncData) (sl : Array (Option Value)) (c : Addr), K.lookup (He.ga K p.1) = some ⟨oc, od, .func fd, sl⟩ ∧ fd.code = .ref c ∧ TabB bs mg c (tabA K p.1) := by
  have := List.all_eq_true.mp T.z p hp
  rw [Bool.and_eq_true] at this
  obtain ⟨oc, od, fd, sl, c, e1, e2, e3⟩ := lamB_at this.1
  refine ⟨oc, od, fd, sl, c, e1, e2, codeHd_of e3 T.b.kin, ?_, fun z => ?_⟩
  · obtain ⟨q, ob, b1, b2, b3, b4, b5, b6, b7⟩ := T.b.bm
    refine ⟨q, ob, b1, b2, b3, fun z => ?_, b4, b5, b6, b7⟩
    have := T.b.no (tabA K p.1) (List.mem_map.mpr ⟨p, hp, rfl⟩)
    rw [← z, b4] at this
    cases this
  · obtain ⟨o, es, ep, e, _⟩ := T.b.ns
    have := T.b.no (tabA K p.1) (List.mem_map.mpr ⟨p, hp, rfl⟩)
    rw [← z, e] at this
    cases this
theorem Tz.one {K : PySem.W.Frag} {mg : Str → Option Value} {bs : Heap} (T : Tz K mg bs) {p : Str × Str} (hp : p ∈ Lams.tabs) : ∀ p' ∈ Lams.tabs, tabA K p'.1 = tabA K p.1 → p'.2 = p.2 := fun p' hp' e => by
  have := List.all_eq_true.mp T.z p hp
  rw [Bool.and_eq_true] at this
  have := List.all_eq_true.mp this.2 p' hp'
  rw [Bool.or_eq_true] at this
  rcases this with z | z
  · exact absurd e (of_decide_eq_true z)
  · exact of_decide_eq_true z
/-- the running def x holds lambdas -/
structure InDef (X : Cx) (x q : Str) : Prop where
  code : ∃ c, X.env.code = .ref c ∧ TabB X.base X.mg c (tabA X.K x)
  mem : (x, q) ∈ Lams.tabs
  one : ∀ p ∈ Lams.tabs, tabA X.K p.1 = tabA X.K x → p.2 = q
  qual : X.env.qual ++ "<lambda>" = q
  far : FarC X
theorem InDef.lam {X : Cx} {x q : Str} (D : InDef X x q) {i : Nat} {sc : Scope} (hsc : X.env.scope = sc) (hq : (Lams.of i).qual = q) (hd : ∀ env, defaultsOf (Lams.of i).params env = ([], [])) (hf : NdefX.ndefB sc (Lams.of i).scope (Lams.of i).fr = true) : LamIn X i x :=
  ⟨D.code, by rw [D.qual]; exact D.mem, by rw [D.qual]; exact D.one, by rw [D.qual]; exact hq, hd _, by rw [hsc]; exact NdefX.ndef_free hf⟩
/-- a def that holds lambdas keeps its mirror -/
theorem defOkL_of {P : Program} {w : World} {K : PySem.W.Frag} {mg : Str → Option Value} {bs : Heap} {x : Str} {params : Arguments} {bd : List Stmt} {sc : Scope} {dvs : List V} {kws : List (Str × V)} {N ps : List Str} {k : Nat} {body : SM} {n : Nat} {ks : List Str} {gW : List W → List W → List W} {q : Str}
    (F : ∃ fd, FunD K x x params bd sc dvs kws (He.ga K x) fd) (S : FnScope N ps sc) (T : Tz K mg bs) (hm : (x, q) ∈ Lams.tabs) (hq : x ++ ".<locals>." ++ "<lambda>" = q) (rm : Room (k + 1) callerA)
    (hb : ∀ X : Cx, X.prog = P → X.w = w → X.K = K → X.mg = mg → X.base = bs → GoodF X N sc k → InDef X x q → SSs X bd body)
    (hB : ∀ fd, FunD K x x params bd sc dvs kws (He.ga K x) fd → Bdg K fd ps n ks gW) : DefKw P w K mg bs x (k + 1) ps (mFn N body) n ks gW := by
  obtain ⟨fd, F⟩ := F
  have hB := hB fd F
  have kp := F.kp
  obtain ⟨oc, od, fd2, sl2, c, lk2, hc, TB⟩ := T.at_ hm
  obtain ⟨oc, od, dV, kV, doc, pm, an, cdv, ct, osl, rfl, lk, hcd, _, _⟩ := F.ex
  rw [lk2] at lk
  have lk' := lk2.symm.trans (lk2.trans lk)
  cases lk'
  have g0 : GoodF (cxOf (L2.CX P w) P w K mg bs N x sc (He.ga K x) cdv callerA [] ⟨{}, #[], {}, 1, {}⟩ (fun _ => none) E0) N sc k := goodF_cx rfl (rm.deeper _) S T.b.sm
  refine ⟨⟨_, ?_, kp, hB⟩, mFn_len (hb _ rfl rfl rfl rfl rfl g0 ⟨⟨c, hc, TB⟩, hm, T.one hm, hq, far_of rfl⟩).len⟩
  refine fnG_of lk2 hcd S (fun vs H Q E h => h.1) fun A fr s H vs Q E hG rm h => ⟨wSs _ bd, pss_w, ?_⟩
  obtain ⟨hl, B, al, m, ws, o, m', q2, wd, r, ho⟩ := h
  have hx : Takes (cxOf (L2.CX P w) P w K mg bs N x sc (He.ga K x) cdv A fr s H E) (fun cls d _ H => E cls d H) := takes_of rfl rfl rfl rfl
  have g : GoodF (cxOf (L2.CX P w) P w K mg bs N x sc (He.ga K x) cdv A fr s H E) N sc k := ⟨⟨rfl, rfl, rm, hG, rfl, rfl, S.nd, T.b.sm⟩, passes_of rfl, ⟨E, hx⟩, rfl, rfl⟩
  have D : InDef (cxOf (L2.CX P w) P w K mg bs N x sc (He.ga K x) cdv A fr s H E) x q := ⟨⟨c, hc, TB⟩, hm, T.one hm, hq, far_of rfl⟩
  have b := hb _ rfl rfl rfl rfl rfl g D
  have rs := repS_start (N := N) r
  rcases mFn_cases q2 with ⟨u, e, rfl⟩ | ⟨ρ, e, rfl⟩ | ⟨c, fs, ρ, e, rfl⟩
  · exact b.run _ _ _ _ e B al _ H _ wd rs ho
  · exact b.run _ _ _ _ e B al _ H _ wd rs fun B1 al1 σ1 H1 e1 g1 wd1 rs1 => ho B1 al1 .non H1 e1 g1 wd1 .non
  · exact b.run _ _ _ _ e B al _ H _ wd rs ⟨_, hx, fun B1 al1 σ1 cls oa H1 e1 g1 wd1 rs1 rx => ho B1 al1 cls oa H1 e1 g1 wd1 rx⟩
end Dm
/-! Dm, part 60: where a lambda stands in a def's text. -/
namespace Dm
open PySem PySem.Spec PyProof.Rows L2
def kidsE : PySem.Expr → List PySem.Expr
  | .BoolOp _ es _ => es
  | .BinOp a _ b _ => [a, b]
  | .UnaryOp _ a _ => [a]
  | .Lambda _ b _ _ => [b]
  | .IfExp c a b _ => [c, a, b]
  | .ListComp e gs _ _ => e :: gs.flatMap fun g => g.iter :: g.ifs
  | .Compare a _ bs _ => a :: bs
  | .Call f as ks _ => f :: as ++ ks.map (·.value)
  | .Attribute a _ _ => [a]
  | .Subscript a b _ => [a, b]
  | .List es _ => es
  | .Tuple es _ _ => es
  | _ => []
def kidsS : Stmt → List PySem.Expr
  | .Return (some e) _ => [e]
  | .Assign _ e _ => [e]
  | .AugAssign _ _ e _ => [e]
  | .For _ i _ _ _ => [i]
  | .While c _ _ _ => [c]
  | .If c _ _ _ => [c]
  | .Expr e _ => [e]
  | _ => []
def subsS : Stmt → List Stmt
  | .For _ _ b e _ => b ++ e
  | .While _ b e _ => b ++ e
  | .If _ b e _ => b ++ e
  | .Try b _ e f _ => b ++ e ++ f
  | _ => []
def atS : List Nat → List Stmt → Option Stmt
  | [], _ => none
  | i :: r, bd => match bd[i]? with
    | none => none
    | some s => if r.isEmpty then some s else atS r (subsS s)
def atE : List Nat → PySem.Expr → Option PySem.Expr
  | [], e => some e
  | i :: r, e => match (kidsE e)[i]? with
    | none => none
    | some e => atE r e
/-- the lambda at a place of a def's text -/
def lamC (qual : Str) (fr : List Str) (bd : List Stmt) (sp : List Nat) (ep : List Nat) : LamC := match (atS sp bd).bind fun s => match ep with
    | [] => none
    | i :: r => ((kidsS s)[i]?).bind (atE r) with
  | some (.Lambda a b s _) => ⟨qual, a, b, s, fr⟩
  | _ => ⟨qual, default, .Tuple [] 0 default, default, fr⟩
end Dm
set_option maxHeartbeats 1000000
/-! Dm, part 61: a lambda without arguments called; levels. -/
namespace Dm
open PySem PySem.Spec PyProof.Rows L2
open Evl (Ex)
variable [Lams]
theorem LmD.mono {P : Program} {w : World} {K : PySem.W.Frag} {mg : Str → Option Value} {bs : Heap} {j k i n : Nat} {F : FM} (L : LmD P w K mg bs j i n F) (h : j ≤ k) : LmD P w K mg bs k i n F := by
  obtain ⟨ps, hl, r⟩ := L.run
  exact ⟨L.len, ps, hl, fun f cl c => ⟨(r f cl c).len, fun A outer s H us vs ws Q E hG rm => (r f cl c).run A outer s H us vs ws Q E hG (rm.mono h)⟩⟩
def mCallV0 (i : Nat) (tab : Nat → Option (Nat × FM)) : EM := fun ρ m => match ρ[i]? with
  | some (some (.clo id ds)) => (match tab id with
    | some (n, F) => if n = 0 then cut m.length (F (ds.map Cp.w) m) else none
    | none => none)
  | _ => none
theorem callV0_eq {i : Nat} {tab : Nat → Option (Nat × FM)} {ρ : Slots} {m m' : Mem} {o : Out W} (q : mCallV0 i tab ρ m = some (o, m')) : ∃ id ds F, ρ[i]? = some (some (.clo id ds)) ∧ tab id = some (0, F) ∧ cut m.length (F (ds.map Cp.w) m) = some (o, m') := by
  unfold mCallV0 at q
  split at q
  · next id ds e =>
    split at q
    · next n F e2 =>
      split at q
      · next hn => subst hn; exact ⟨id, ds, F, e, e2, q⟩
      · cases q
    · cases q
  · cases q
section
variable {X : Cx} {i j : Nat} {tab : Nat → Option (Nat × FM)} {x : Str} {p pos : Pos}
theorem se_callV0 (L : ∀ id n F, tab id = some (n, F) → LmD X.prog X.w X.K X.mg X.base j id n F) (hr : Room j X.A) (hG : X.A.guards = some []) (hN : X.N[i]? = some x) (hv : Vis X.env.scope x)
    (hd : (x == ("__debug__" : Str)) = false := by decide) (hcd : (x == ("__classdict__" : Str)) = false := by decide) : SE X (.Call (.Name x p) [] [] pos) (mCallV0 i tab) := by
  refine ⟨fun ρ m o m' q => ?_, fun ρ m o m' q B al σ H Q wd rs h pins s I => ?_⟩
  · obtain ⟨id, ds, F, _, ht, q1⟩ := callV0_eq q
    obtain ⟨m3, e3, h3⟩ := cut_eq q1
    have l3 := (L _ _ _ ht).len _ _ _ _ e3
    rcases h3 with rfl | ⟨rfl, _⟩
    · exact l3
    · rw [List.length_take]; omega
  obtain ⟨id, ds, F, ei, ht, q1⟩ := callV0_eq q
  obtain ⟨v, hs, rv⟩ := rs.2 i _ ei
  obtain ⟨f, c, cl, us, rfl, hf, hc, hcl, rd⟩ := rv
  refine wpAny_Call_Name_kw (thn ((pe_var (pos := p) hN hv hd hcd).run pins s σ H (fun z H1 => z = .ref f ∧ H1 = H) I ⟨_, hs, rfl, rfl⟩) fun u s1 ⟨z, H1, I1, r1, q2⟩ => ?_)
  obtain ⟨rfl, rfl⟩ := q2
  obtain rfl : u = Value.ref f := r1
  have q3 : cut m.length (F ([] ++ ds.map Cp.w) m) = some (o, m') := q1
  obtain ⟨f', e', fa, z⟩ := clo_run (L id 0 F ht) hr hG h (Nat.le_refl _) (Ex.refl B) Agr.refl wd (v := .ref f) ⟨f, c, cl, us, rfl, hf, hc, hcl, rd⟩ (vs := []) (ws := []) trivial ⟨rfl, rfl⟩ q3 I1 (ua := []) .nil
  cases e'
  exact PySem.W.callWith_F0 (first := []) fa z
end
theorem Good.callV0 {X : Cx} {N : List Str} {sc : Scope} {k : Nat} {fn : Str → Bool} (g : Good X N sc k fn) (i : Nat) {j : Nat} {tab : Nat → Option (Nat × FM)} {x : Str} {p pos : Pos} (L : ∀ id n F, tab id = some (n, F) → LmD X.prog X.w X.K X.mg X.base j id n F) (hj : Nat.ble j k = true) (h : vB N sc i x = true) :
    SE X (.Call (.Name x p) [] [] pos) (mCallV0 i tab) := by
  unfold vB at h
  rw [Bool.and_eq_true, Bool.and_eq_true, Bool.and_eq_true, Bool.not_eq_true', Bool.not_eq_true'] at h
  exact se_callV0 L (g.room.mono (Nat.le_of_ble_eq_true hj)) g.gd (by rw [g.N]; exact of_decide_eq_true h.1.1.1) (by rw [g.sc]; exact vis_of h.1.1.2) h.1.2 h.2
end Dm
set_option maxHeartbeats 2000000
/-! Dm, part 62: try, except clauses with and without names. -/
namespace Dm
open PySem PySem.Spec PyProof.Rows L2
open Evl (Ex)
variable [Lams]
/-- the ends of a suite whose name is gone behind it -/
def wipeE (D : Ends) : Option Nat → Ends
  | none => D
  | some i => { nx := fun σ H => D.nx (σ.set i none) H, rt := D.rt, bk := fun σ H => D.bk (σ.set i none) H, ct := fun σ H => D.ct (σ.set i none) H }
def putN (σ : L2.St) (a : Addr) : Option Nat → L2.St
  | none => σ
  | some i => σ.set i (some (.ref a))
/-- one clause: its class, its name's slot, what is said of its suite -/
structure Hn where
  c : Value
  i : Option Nat
  ts : Addr → Value → Option Addr → TS
/-- what the clauses wish of an exception, one behind the other -/
def wHs (K : PySem.W.Frag) (W0 : WX) (D : Ends) : List Hn → WX
  | [] => W0
  | h :: r => fun cls d σ H => ∃ b, PySem.W.exmOne K cls h.c = some b ∧ (b = true → ∀ a, H a = none → h.ts a cls d (wipeE D h.i) (putN σ a h.i) H) ∧ (b = false → wHs K W0 D r cls d σ H)
/-- the clauses are read so -/
inductive Hns (X : Cx) : List ExceptHandler → List Hn → Prop
  | nil : Hns X [] []
  | cons {x : Str} {nm : Option Str} {h : Hn} {st : Stmt} {sts : List Stmt} {p1 p2 : Pos} {hs : List ExceptHandler} {l : List Hn} (names : Names X x h.c) (slot : ∀ n, nm = some n → ∃ i, h.i = some i ∧ X.N[i]? = some n ∧ X.env.kindOf n = some .local) (noName : nm = none → h.i = none)
      (read : ∀ (a : Addr) (oe : Obj) (cls : Value) (d : Option Addr) (pn : List (Addr × Obj)), Zc cls d oe → (∃ vs, oe.data = .fields vs) → PSs (X.suite a ((a, oe) :: pn)) (st :: sts) (h.ts a cls d)) (r : Hns X hs l) :
      Hns X (.ExceptHandler (some (.Name x p1)) nm (st :: sts) p2 :: hs) (h :: l)
section
variable {X : Cx} {bd : List Stmt} {h1 : ExceptHandler} {hs : List ExceptHandler} {l : List Hn} {pos : Pos} {rb : WX → TS} {W0 : WX}
theorem ps_tryN (stk : X.stack = X.env :: X.outer) (frm : X.env.frame = some X.env.locals) (nod : X.N.Nodup) (tk : Takes X W0)
    (body : ∀ (W : WX) (pn : List (Addr × Obj)) (xe : Value → Shared → Prop), Takes (X.tr pn xe) W → PassesOwn (model X.prog X.w) X.A X.env xe → PSs (X.tr pn xe) bd (rb W))
    (clauses : Hns X (h1 :: hs) l) : PS X (.Try bd (h1 :: hs) [] [] pos) (fun D σ H => rb (wHs X.K W0 D l) D σ H) := by
  refine ⟨fun pins s σ H D I told => ?_⟩
  have okX := I.ok
  have frames : X.A.frames = some (X.env :: X.outer) := by rw [okX.frames, stk]
  refine wpAny_Try_except ?_
  have bodyRun := (body (wHs X.K W0 D l) (X.pn ++ pins) (fun e sA => wpAny (model X.prog X.w) X.A (noteFrame e X.env) (fun _ sB => wpAny (model X.prog X.w) X.A (setFlight e none) (fun _ sC =>
    wpAny (model X.prog X.w) X.A (handleBy e X.env (h1 :: hs)) (SP X pins D) X.xe sC) X.xe sB) X.xe sA) (fun u s' caught => ?_) PassesOwn.looking).run [] s σ H D (I.toTry _) told
  · refine wpAny_mono bodyRun (fun f sZ done => ?_) (fun e sZ z => z)
    match f, done with
    | .next, ⟨σ', H', J, q⟩ => exact wpAny_execs_nil ⟨σ', H', J.ofTry okX, q⟩
    | .brk, ⟨σ', H', J, q⟩ => exact ⟨σ', H', J.ofTry okX, q⟩
    | .cont, ⟨σ', H', J, q⟩ => exact ⟨σ', H', J.ofTry okX, q⟩
    | .ret u, ⟨v, σ', H', J, r, q⟩ => exact ⟨v, σ', H', J.ofTry okX, r, q⟩
  · obtain ⟨a, G, sI, pins', σ', H', cls, d, rfl, Jt, kept, ups, sky, fresh, hos, gens, wish⟩ := caught
    have J : Inv X pins σ' H' sI := Jt.ofTry okX
    have skyX : Sky G (X.env :: X.outer) a (Zc cls d) X.env.locals s'.heap := by rw [← stk]; exact sky
    show wpAny (model X.prog X.w) X.A (noteFrame (.ref a) X.env) _ _ _
    refine Sky.land Zc.steady frames frm skyX fun hL fl upL => ?_
    have JL : Inv X pins σ' H' { s' with heap := hL } := J.landed kept fl.1 (ups.trans upL) hos gens
    obtain ⟨oL, vL, atL, zL, dL⟩ := fl.there
    have apart : a ∉ frs (X.env :: X.outer) := fun mem => by
      obtain ⟨_, o2, e2, bad⟩ := fl.2.2.1.mem mem
      rw [atL] at e2
      cases e2
      exact bad _ dL
    have notLoc : a ≠ X.env.locals := fun z => apart (List.mem_filterMap.mpr ⟨X.env, List.mem_cons_self, by rw [frm, z]⟩)
    have notFs : a ∉ X.fs := fun mem => by
      obtain ⟨en, hen, q⟩ := List.mem_filterMap.mp mem
      exact apart (List.mem_filterMap.mpr ⟨en, List.mem_cons_of_mem _ hen, q⟩)
    have suiteL := JL.suite atL dL fresh notLoc notFs
    have each : ∀ {hs2 : List ExceptHandler} {l2 : List Hn}, Hns X hs2 l2 → wHs X.K W0 D l2 cls d σ' H' → wpAny (model X.prog X.w) X.A (handleBy (.ref a) X.env hs2) (SP X pins D) X.xe { s' with heap := hL } := by
      intro hs2 l2 all
      induction all with
      | nil =>
        intro w
        refine wpAny_handleBy_nil ?_
        obtain ⟨_, _, _, oe, vs, T, oT, tsT, he, hz, hd, ht, _⟩ := id fl
        unfold PySem.passOn
        refine wpAny_bind (wpAny_field he hd ht ?_)
        rw [if_neg (show ¬ ((Value.ref T == Value.none) = true) from by simp)]
        have rethrow : wpAny (model X.prog X.w) X.A (setFlight (.ref a) X.env.frame) (fun _ s4 => wpAny (model X.prog X.w) X.A (throw (.ref a) : Sem Flow) (SP X pins D) X.xe s4) X.xe { s' with heap := hL } := by
          rw [frm]
          refine HandSPX.setFlight_upZ fl fun hM held upM => wpAny_throw (tk _ _ ?_)
          exact ⟨a, G, sI, pins, σ', H', cls, d, rfl, J, kept, (ups.trans upL).trans upM, .inr (.inr (by rw [stk]; exact held)), fresh, hos, gens, w⟩
        first
          | exact wpAny_bind (wpAny_pure (wpAny_bind rethrow))
          | exact wpAny_bind rethrow
      | @cons x nm hn st sts p1 p2 hs3 l3 names slot noName read rest ih =>
        intro w
        obtain ⟨b, isB, yes, no⟩ := w
        refine wpAny_handleBy_cons (codeAny_handlers_test ?_) (by intro q; cases q)
        have typ : PySem.W.Looks (model X.prog X.w) hL (typeOf (.ref a)) cls := fun A Q E s k q => wpAny_typeOf_ref (k _ _ atL) (by rw [zL.1]; exact q)
        have asked := PySem.W.exm_one (M := model X.prog X.w) (JL.kIn) typ isB
        have clsRun : ∀ {Q E : Value → Shared → Prop}, Q hn.c { s' with heap := hL } → wpAny (model X.prog X.w) (X.A.mark (some (.ref a))) (eval (.Name x p1) X.env) Q E { s' with heap := hL } := fun {Q E} q => by
          obtain ⟨g1, g2, g3 | ⟨g3, g4, g5⟩⟩ := names
          · exact ld_glob (X := X.suite a ((a, oL) :: (X.pn ++ pins))) suiteL g1 g3 q g2
          · exact ld_blt (X := X.suite a ((a, oL) :: (X.pn ++ pins))) suiteL g1 g3 g4 q g5 g2
        refine clsRun (asked.here ?_)
        match b, isB, yes, no with
        | false, _, _, no =>
          show wpAny _ X.A (handleBy (.ref a) X.env hs3) _ _ _
          exact ih (no rfl)
        | true, _, yes, _ =>
          have told2 := yes rfl a fresh
          match nm, slot, noName with
          | none, _, noName =>
            have ei := noName rfl
            rw [ei] at told2
            refine codeAny_handlers_suite ?_
            refine HandSPX.lands_againZ fl fun hM flM upM => ?_
            have JM : Inv X pins σ' H' { s' with heap := hM } := J.landed kept flM.1 ((ups.trans upL).trans upM) hos gens
            obtain ⟨oM, vM, atM, zM, dM⟩ := flM.there
            have suiteM := JM.suite atM dM fresh notLoc notFs
            refine wpAny_mono ((read a oM cls d (X.pn ++ pins) zM ⟨_, dM⟩).run [] _ _ H' _ suiteM told2) (fun f s6 done => ?_) (fun _ _ z => False.elim z)
            match f, done with
            | .next, ⟨_, _, S6, q6⟩ => exact ⟨_, _, S6.unsuite okX, q6⟩
            | .brk, ⟨_, _, S6, q6⟩ => exact ⟨_, _, S6.unsuite okX, q6⟩
            | .cont, ⟨_, _, S6, q6⟩ => exact ⟨_, _, S6.unsuite okX, q6⟩
            | .ret u, ⟨_, _, _, S6, r6, q6⟩ => exact ⟨_, _, _, S6.unsuite okX, r6, q6⟩
          | some n, slot, _ =>
            obtain ⟨i, ei, hi, kind⟩ := slot n rfl
            rw [ei] at told2
            refine codeAny_handlers_suite_as ?_
            refine HandSPX.lands_againZ fl fun hM flM upM => ?_
            have JM : Inv X pins σ' H' { s' with heap := hM } := J.landed kept flM.1 ((ups.trans upL).trans upM) hos gens
            obtain ⟨oM, vM, atM, zM, dM⟩ := flM.there
            have suiteM := JM.suite atM dM fresh notLoc notFs
            refine store_ok (X := X.suite a ((a, oM) :: (X.pn ++ pins))) (v := .ref a) suiteM nod hi (.inl kind) rfl (fun s5 suite5 => ?_) (.inr kind)
            refine wpAny_mono ((read a oM cls d (X.pn ++ pins) zM ⟨_, dM⟩).run [] s5 _ H' _ suite5 told2) (fun f s6 done => ?_) (fun _ _ z => False.elim z)
            have goes : ∀ {σ6 : L2.St} {H6 : Hp} {Q : Shared → Prop}, Inv (X.suite a ((a, oM) :: (X.pn ++ pins))) [] σ6 H6 s6 → (∀ s7, Inv X pins (σ6.set i none) H6 s7 → Q s7) →
                wpAny (model X.prog X.w) X.A (do bindName X.env n .none; unbindBehindTheSuite X.env n p2) (fun _ s7 => Q s7) X.xe s6 := fun {σ6 H6 Q} S6 hq => gone_ok (S6.unsuite okX) nod hi kind hq
            match f, done with
            | .next, ⟨_, _, S6, q6⟩ => exact goes S6 fun s7 J7 => ⟨_, _, J7, q6⟩
            | .brk, ⟨_, _, S6, q6⟩ => exact goes S6 fun s7 J7 => ⟨_, _, J7, q6⟩
            | .cont, ⟨_, _, S6, q6⟩ => exact goes S6 fun s7 J7 => ⟨_, _, J7, q6⟩
            | .ret u, ⟨_, _, _, S6, r6, q6⟩ => exact goes S6 fun s7 J7 => ⟨_, _, _, J7, r6, q6⟩
    exact each clauses wish
end
end Dm
set_option maxHeartbeats 2000000
/-! Dm, part 63: raise. -/
namespace Dm
open PySem PySem.Spec PyProof.Rows L2
open Evl (Ex)
variable [Lams]
theorem exLay_eq {K : PySem.W.Frag} {B H : Hp} {C a dx : Addr} {fls : List Str} {ys : List V} {ds : List D} {fs : List (Str × D)} (r : Reps K B ys ds) (e : exF fls ds = some fs) (ne : dx ≠ a) :
    ∃ gs, RepF K B gs fs ∧ exLay a C dx (upd H a (exo a C none)) (fls.zip ys) = upd (upd H dx (exd dx gs)) a (exo a C (some dx)) := by
  have up2 : ∀ {G : Hp} {o o' : HO}, upd (upd G a o) a o' = upd G a o' := fun {G o o'} => by
    funext b; by_cases z : b = a
    · rw [z, upd_same, upd_same]
    · rw [upd_ne z, upd_ne z, upd_ne z]
  have sw : ∀ {G : Hp} {o o' : HO}, upd (upd G a o) dx o' = upd (upd G dx o') a o := fun {G o o'} => by
    funext b; by_cases z : b = a
    · subst z; rw [upd_same, upd_ne ne.symm, upd_same]
    · by_cases y : b = dx
      · subst y; rw [upd_same, upd_ne z, upd_same]
      · rw [upd_ne y, upd_ne z, upd_ne z, upd_ne y]
  have up3 : ∀ {G : Hp} {o o' : HO}, upd (upd G dx o) dx o' = upd G dx o' := fun {G o o'} => by
    funext b; by_cases z : b = dx
    · rw [z, upd_same, upd_same]
    · rw [upd_ne z, upd_ne z, upd_ne z]
  match fls, ds, e, ys, r with
  | [f], [d], e, [y], .cons r1 .nil =>
    cases e
    refine ⟨[(f, y)], .cons r1 .nil, ?_⟩
    show upd (upd (upd H a _) dx _) a _ = _
    rw [sw, up2]
  | [f, f2], [d, d2], e, [y, y2], .cons r1 (.cons r2 .nil) =>
    cases e
    refine ⟨[(f2, y2), (f, y)], .cons r2 (.cons r1 .nil), ?_⟩
    show upd (upd (upd (upd H a _) dx _) a _) dx _ = _
    rw [sw, up3, sw, up2]
/-- the expression makes an exception, which is raised -/
def wMk (X : Cx) (e : PySem.Expr) : L2.St → Hp → XK → Prop := fun σ H Q => ∀ (pins : List (Addr × Obj)) (s : Shared), Inv X pins σ H s → wpAny (model X.prog X.w) X.A (eval e X.env) (MkP X pins σ Q) X.xe s
def AnsR (X : Cx) (B : Hp) (al : Pl) (n : Nat) (σ : L2.St) (Q : XK) (m' : Mem) : Out W → Prop
  | .ok (.dat (.exc c fs)) => AnsX X.K B al n c fs m' Q
  | .ok _ => False
  | .ex c fs => Flies X B al n σ c fs m'
structure SR1 (X : Cx) (e : PySem.Expr) (mm : EM) : Prop where
  len : ∀ ρ m o m', mm ρ m = some (o, m') → m.length ≤ m'.length
  run : ∀ ρ m o m', mm ρ m = some (o, m') → ∀ B al σ H Q, Wd X.K B al m H → RepS X.K B al m.length σ ρ → AnsR X B al m.length σ Q m' o → wMk X e σ H Q
def sRaise (me : EM) : SM := fun ρ m => match me ρ m with
  | some (.ok (.dat (.exc c fs)), m1) => some (.ex c fs ρ, m1)
  | some (.ex c fs, m1) => some (.ex c fs ρ, m1)
  | _ => none
theorem ss_raise {X : Cx} {e : PySem.Expr} {me : EM} {pos : Pos} (hc : X.calm = true) (he : SR1 X e me) : SS X (.Raise (some e) none pos) (sRaise me) := by
  refine ⟨fun ρ m f m' q => ?_, fun ρ m f m' q B al σ H D wd rs h pins s I => ?_⟩
  · unfold sRaise at q
    split at q
    · next e1 => cases q; exact he.len _ _ _ _ e1
    · next e1 => cases q; exact he.len _ _ _ _ e1
    · cases q
  · unfold sRaise at q
    split at q
    · next c fs m1 e1 =>
      cases q
      obtain ⟨Wx, tk, a⟩ := h
      refine (ps_raise (t := wMk X e) hc tk (fun pins s σ H Q I h => h pins s I)).run pins s σ H D I ?_
      exact he.run ρ m _ _ e1 B al σ H _ wd rs fun B1 al1 cls oa H1 x1 g1 wd1 rx => a B1 al1 σ cls oa H1 x1 g1 wd1 (rs.mono x1 g1 (he.len _ _ _ _ e1)) rx
    · next c fs m1 e1 =>
      cases q
      have fl := SFlies.at h rs (he.len _ _ _ _ e1)
      refine (ps_raise (W := fun _ _ _ _ => False) (t := wMk X e) hc takes0 (fun pins s σ H Q I h => h pins s I)).run pins s σ H D I ?_
      exact he.run ρ m _ _ e1 B al σ H _ wd rs fl
    · cases q
section
variable {X : Cx}
theorem exr_run {k n : Nat} {c : Str} {f : Addr} {fd : FuncData} {ps ks fls : List Str} {gW : List W → List W → List W} (T : OexG X.K (He.ga X.K c)) (sub : PySem.W.subIn X.K (.ref (He.ga X.K c)) (.type "BaseException") = some true) (iC : PySem.W.findIn X.K (.ref (He.ga X.K c)) "__init__" = some (some (.ref f))) (tI : PySem.W.typeIn X.K (.ref f) = some (.type "function"))
    (F : FnG X.prog X.w X.K X.mg X.base k f fd ps (spX (He.ga X.K c) fls)) (hr : Room (k + 1) X.A) (hG : X.A.guards = some []) (hb : Bdg X.K fd ps (n + 1) ks gW) (hps : ps.length = fls.length + 1)
    {B B2 : Hp} {al al2 : Pl} {m m2 m' : Mem} {σ : L2.St} {H2 : Hp} {Q : XK} {o : Out W} (h : AnsR X B al m.length σ Q m' o) (l : m.length ≤ m2.length) (e2 : Ex B B2) (g2 : Agr m.length al al2) (wd2 : Wd X.K B2 al2 m2 H2) {vs zs : List V} {ws us : List W}
    (r1 : RepL X.K B2 al2 m2.length vs ws) (r2 : RepL X.K B2 al2 m2.length zs us) (hl1 : ws.length = n) (hl2 : us.length = ks.length) (hn : n ≤ 1000) (q : exEnd c fls m2.length m2 (gW (.hdl m2.length :: ws) us) = some (o, m'))
    {pins : List (Addr × Obj)} {s : Shared} (I : Inv X pins σ H2 s) {uv kv : List Value} (rv : Vals vs uv) (rk : Vals zs kv) : wpAny (model X.prog X.w) X.A (call (.ref (He.ga X.K c)) uv (ks.zip kv)) (MkP X pins σ Q) X.xe s := by
  obtain ⟨g, gV, hbn, hvl, hrel⟩ := hb.ex
  obtain ⟨tl, Bs, newId, initId, nm, qn, N, bs, bm, sn, sub2, ab, col, dd, k0, k1, k2, k3, k5, FB, TO, hC, hbm⟩ := T.cls
  have lv : vs.length = n := r1.length.trans hl1
  have lz : zs.length = ks.length := r2.length.trans hl2
  obtain ⟨hp, gg, dr, tk, os⟩ := s
  have hsz : hp.objs.size ≤ hp.objs.size + 1 := Nat.le_succ _
  have hx : H2 (hp.objs.size + 1) = none := I.hok.fresh hsz
  have kk : ∀ b o, hp.get? b = some o → ((hp.push (PySem.W.kdv_tup uv)).push (PySem.HandSPX.excO (He.ga X.K c) hp.objs.size)).get? b = some o := fun b o e => Heap.get?_push_of_some _ (Heap.get?_push_of_some _ e)
  have hget : ((hp.push (PySem.W.kdv_tup uv)).push (PySem.HandSPX.excO (He.ga X.K c) hp.objs.size)).get? (hp.objs.size + 1) = some (PySem.HandSPX.excO (He.ga X.K c) hp.objs.size) := by heap_get
  have I2 : Inv X pins σ (upd H2 (hp.objs.size + 1) (exo (hp.objs.size + 1) (He.ga X.K c) none)) ⟨(hp.push (PySem.W.kdv_tup uv)).push (PySem.HandSPX.excO (He.ga X.K c) hp.objs.size), gg, dr, tk, os⟩ :=
    I.laid (t' := tk) (a := hp.objs.size + 1) (o := exo (hp.objs.size + 1) (He.ga X.K c) none) (h' := (hp.push (PySem.W.kdv_tup uv)).push (PySem.HandSPX.excO (He.ga X.K c) hp.objs.size)) kk hsz (exo_ok hget)
  have a4 : Agr m2.length al2 (alx al2 m2.length (hp.objs.size + 1)) := ⟨fun k hk => alx_old hk, rfl⟩
  have rS : RepL X.K B2 (alx al2 m2.length (hp.objs.size + 1)) (m2.length + 1) (.ref (hp.objs.size + 1) :: vs) (.hdl m2.length :: ws) := ⟨⟨by rw [alx_here], by omega⟩, r1.mono (Ex.refl _) a4 (by omega)⟩
  have rZ : RepL X.K B2 (alx al2 m2.length (hp.objs.size + 1)) (m2.length + 1) zs us := r2.mono (Ex.refl _) a4 (by omega)
  have lvn : (V.ref (hp.objs.size + 1) :: vs).length = n + 1 := congrArg (· + 1) lv
  have rW := hrel B2 _ _ _ _ _ _ lvn lz rS rZ
  have rv' : Vals (V.ref (hp.objs.size + 1) :: vs) (Value.ref (hp.objs.size + 1) :: uv) := Paired.cons (show RelV (V.ref (hp.objs.size + 1)) (Value.ref (hp.objs.size + 1)) from rfl) rv
  have rr := hbn.rel rv' rk
  have hlen : (gV (.ref (hp.objs.size + 1) :: vs) zs).length = ps.length := hvl _ _ lvn lz
  have bt := hbn.to ⟨(hp.push (PySem.W.kdv_tup uv)).push (PySem.HandSPX.excO (He.ga X.K c) hp.objs.size), gg, dr, tk, os⟩ (.ref (hp.objs.size + 1) :: uv) kv I2.kIn (by rw [List.length_cons, ← rv.length, lv]) (rk.length.symm.trans lz)
  have hus : uv.length ≤ sizeLine := by rw [← Paired.length rv, sizeLine_eq]; omega
  generalize hgv : gV (.ref (hp.objs.size + 1) :: vs) zs = gvs at rW rr hlen
  generalize hgw : gW (.hdl m2.length :: ws) us = gws at rW q
  match gws, q, rW with
  | .hdl i :: r, q, rW =>
  have q' : (if i = m2.length then (datsOf r).bind fun ds => (exF fls ds).map fun fs => (Out.ok (.dat (.exc c fs)), m2) else none) = some (o, m') := q
  split at q'
  rotate_left
  · cases q'
  next hi =>
  subst hi
  obtain ⟨ds, ed, q2⟩ := Option.bind_eq_some_iff.mp q'
  obtain ⟨fs, ef, q3⟩ := Option.map_eq_some_iff.mp q2
  cases q3
  match gvs, rW, hlen, rr with
  | v0 :: ys, rW, hlen, rr =>
  obtain ⟨⟨e0, _⟩, ry⟩ := rW
  rw [alx_here] at e0
  subst e0
  have rd := dats_rep ry ed
  refine wpAny_call (DmX.callK FB (fun Y => DmX.ownTail_contains Y bm hbm) (I.kIn _ _ hC) (PySem.W.looks_findIn I.kIn iC) (fun self => PySem.W.bind_fn I.kIn self tI) hus
    (codeAny_mono (F.run _ X.stack _ _ ⟨Value.ref (hp.objs.size + 1) :: uv, ks.zip kv⟩ _ _ (fun v H3 => v = .non ∧ ∃ dx gs, RepF X.K B2 gs fs ∧ H2 dx = none ∧ dx ≠ hp.objs.size + 1 ∧ H3 = upd (upd H2 dx (exd dx gs)) (hp.objs.size + 1) (exo (hp.objs.size + 1) (He.ga X.K c) (some dx))) E0 (under_guards hG) (hr.make _ uv _) (I2.env0.make _ uv _) bt rr
      ⟨by rw [hlen, hps], _, ys, rfl, upd_same, fun dx hd ne => ⟨rfl, ?_⟩⟩) fun r s' hq => ?_))
  · obtain ⟨gs, rf, eq⟩ := exLay_eq (H := H2) (C := He.ga X.K c) rd ef ne
    exact ⟨dx, gs, rf, by rw [upd_ne ne] at hd; exact hd, ne, eq⟩
  · cases r with
    | error er => exact (passL pins _ _ _ er s' I2 hq)
    | ok fl =>
      cases fl with
      | ret u =>
        obtain ⟨v, H', os2, bare2, un2, hok2, rv3, ev, dx, gs, rf, hdx, ne, eH⟩ := hq
        subst ev eH
        obtain ⟨h3, g3, d3, t3, os3⟩ := s'
        refine ⟨rv3, mk_end (raises_own sub T.tyC) I hsz kk un2 hok2 os2 bare2 upd_same (by rw [upd_ne ne, upd_same]) hdx ?_⟩
        have eqH : upd (del (upd (upd H2 dx (exd dx gs)) (hp.objs.size + 1) (exo (hp.objs.size + 1) (He.ga X.K c) (some dx))) (hp.objs.size + 1)) dx (.xd gs) = upd H2 dx (.xd gs) := by
          funext b
          by_cases z : b = dx
          · rw [z, upd_same, upd_same]
          · rw [upd_ne z, upd_ne z]
            by_cases y : b = hp.objs.size + 1
            · rw [y, del_same, hx]
            · rw [del_ne y, upd_ne y, upd_ne z]
        rw [eqH]
        have gr := Gr.lay wd2.ext (o := .xd gs) hdx
        exact h _ al2 _ _ _ (e2.trans gr.b) g2 (wd2.grow gr) ⟨rfl, .inr ⟨dx, gs, rfl, upd_same, rf.mono gr.b⟩⟩
      | next => exact False.elim hq
      | brk => exact False.elim hq
      | cont => exact False.elim hq
end
section
variable {X : Cx} {c : Str} {e : PySem.Expr} {es : List PySem.Expr} {ma : AM} {p pos : Pos} {j k n : Nat} {fls : List Str} {gW : List W → List W → List W}
theorem sr_exc (F : ExcK X.prog X.w X.K X.mg X.base c j n [] fls gW) (sub : PySem.W.subIn X.K (.ref (He.ga X.K c)) (.type "BaseException") = some true) (hj : j ≤ k) (hr : Room (k + 1) X.A) (hG : X.A.guards = some []) (hg : Gl X c) (hm : X.mg c = some (.ref (He.ga X.K c)))
    (ha : SA X (e :: es) ma) (h0 : noStar e = true := by rfl) (h1 : es.all noStar = true := by rfl) (hdb : (c == ("__debug__" : Str)) = false := by decide) : SR1 X (.Call (.Name c p) (e :: es) [] pos) (mExc c fls n 0 gW ma mNil) := by
  obtain ⟨T, ⟨f, fd, ps, iC, tI, G, b, hps⟩, hn⟩ := F
  refine ⟨exc_len ha.len (sk_nil (X := X)).len, fun ρ m o m' q B al σ H Q wd rs h pins s I => ?_⟩
  have hres : Res X B al m.length σ m' o := fun c2 fs2 z => by subst z; exact h
  refine wpAny_Call_Name_kw (ld_glob I hg hm ?_ hdb)
  refine PySem.W.callWith_K (h₀ := X.base) I.ok.mod.kin T.kC (thn (ha.seq (Q' := fun vs H1 => ∀ pins s1 us, Inv X pins σ H1 s1 → Vals vs us → wpAny (model X.prog X.w) X.A (call (.ref (He.ga X.K c)) us) (MkP X pins σ Q) X.xe s1) q wd rs hres (fun ws m1 q1 l1 B1 al1 vs1 H1 e1 g1 wd1 r1 pins s1 us I1 ru => ?_) pos pins s I)
    fun us s1 ⟨vs, H1, I1, r, q⟩ => ⟨I1.kIn, q pins s1 us I1 r⟩) (starEach_cons h0) (star_any h1)
  have q2 : (if ws.length = n ∧ ([] : List W).length = 0 then exEnd c fls m1.length m1 (gW (.hdl m1.length :: ws) []) else none) = some (o, m') := q1
  split at q2
  · next hl => exact exr_run (ks := []) (kv := []) (zs := []) (us := []) T sub iC tI (G.mono hj) hr hG b hps h l1 e1 g1 wd1 r1 trivial hl.1 rfl hn q2 I1 ru .nil
  · cases q2
theorem sr_exc0 (T : OexB X.K (He.ga X.K c)) (sub : PySem.W.subIn X.K (.ref (He.ga X.K c)) (.type "BaseException") = some true) (ty : PySem.W.typeIn X.K (.ref (He.ga X.K c)) = some (.type "type")) (hg : Gl X c) (hm : X.mg c = some (.ref (He.ga X.K c))) (hdb : (c == ("__debug__" : Str)) = false := by decide) : SR1 X (.Call (.Name c p) [] [] pos) (mExc0 c) := by
  refine ⟨fun ρ m o m' q => by cases q; exact Nat.le_refl _, fun ρ m o m' q B al σ H Q wd rs h pins s I => ?_⟩
  cases q
  refine wpAny_Call_Name_kw (ld_glob I hg hm ?_ hdb)
  refine PySem.W.callWith_K0 I.kIn T.kC ?_
  obtain ⟨tl, Bs, newId, initId, nm, qn, N, bs, bm, sn, sub2, ab, col, dd, k0, k1, k2, k3, k5, FB, hC, hbm, hi⟩ := T.cls
  obtain ⟨hp, gg, dr, tk, os⟩ := s
  refine PySem.W.call_B FB (fun Y => DmX.ownTail_contains Y bm hbm) (I.kIn _ _ hC) (PySem.W.looks_findIn I.kIn hi) (Nat.zero_le _) fun h' kk e1 e2 => ?_
  have hsz : hp.objs.size ≤ hp.objs.size + 1 := Nat.le_succ _
  have hx : H (hp.objs.size + 1) = none := I.hok.fresh hsz
  have hnew : hp.get? (hp.objs.size + 1) = none := by
    cases z : hp.get? (hp.objs.size + 1) with
    | none => rfl
    | some o => exact absurd (Nat.lt_of_succ_lt (Heap.lt_size z)) (Nat.lt_irrefl _)
  exact ⟨_, _, _, ⟨hp, gg, dr, tk, os⟩, H, .ref (He.ga X.K c), none, rfl, I, kk, hnew, e1, ⟨rfl, rfl⟩, rfl, rfl, hx, rfl, I.bare, raises_own sub ty, h B al _ _ _ (Ex.refl B) Agr.refl wd ⟨rfl, .inl ⟨rfl, rfl⟩⟩⟩
end
end Dm
set_option maxHeartbeats 2000000
/-! Dm, part 64: what an except suite says of its exception. -/
namespace Dm
open PySem PySem.Spec PyProof.Rows L2
open Evl (Ex)
variable [Lams]
abbrev FX := Str → List (Str × D) → Option D
/-- the exception stands at a, named by the slot nm -/
def At (σ : L2.St) (nm : Option Nat) (a : Addr) : Prop := ∀ i, nm = some i → σ[i]? = some (some (.ref a))
/-- an expression in the suite, by the exception's class and fields -/
structure SEx (X : Cx) (nm : Option Nat) (e : PySem.Expr) (f : FX) : Prop where
  run : ∀ (a : Addr) (oe : Obj) (cls : Value) (d : Option Addr) (pn : List (Addr × Obj)) (c : Str) (fs : List (Str × D)) (dv : D), f c fs = some dv → Zc cls d oe → (∃ vs, oe.data = .fields vs) → ∀ (B : Hp) (al : Pl) (m : Mem) (σ : L2.St) (H : Hp) (Q : VK), Wd X.K B al m H → RepX X.K B cls d c fs → At σ nm a →
    (∀ B' v H', Ex B B' → Wd X.K B' al m H' → Rep X.K B' v dv → Q v H') → wE (X.suite a ((a, oe) :: pn)) e σ H Q
structure SExs (X : Cx) (nm : Option Nat) (es : List PySem.Expr) (f : Str → List (Str × D) → Option (List D)) : Prop where
  run : ∀ (a : Addr) (oe : Obj) (cls : Value) (d : Option Addr) (pn : List (Addr × Obj)) (c : Str) (fs : List (Str × D)) (dv : List D), f c fs = some dv → Zc cls d oe → (∃ vs, oe.data = .fields vs) → ∀ (B : Hp) (al : Pl) (m : Mem) (σ : L2.St) (H : Hp) (Q : List V → Hp → Prop), Wd X.K B al m H → RepX X.K B cls d c fs → At σ nm a →
    (∀ B' vs H', Ex B B' → Wd X.K B' al m H' → Reps X.K B' vs dv → Q vs H') → wA (X.suite a ((a, oe) :: pn)) es σ H Q
theorem RepX.mono {K : PySem.W.Frag} {B B' : Hp} {cls : Value} {d : Option Addr} {c : Str} {fs : List (Str × D)} (e : Ex B B') (h : RepX K B cls d c fs) : RepX K B' cls d c fs :=
  ⟨h.1, h.2.imp (fun z => z) fun ⟨a, gs, h1, h2, h3⟩ => ⟨a, gs, h1, e _ _ h2, h3.mono e⟩⟩
def xC (d : D) : FX := fun _ _ => some d
def xCons (f : FX) (g : Str → List (Str × D) → Option (List D)) : Str → List (Str × D) → Option (List D) := fun c fs => match f c fs, g c fs with
  | some d, some r => some (d :: r)
  | _, _ => none
def xNil : Str → List (Str × D) → Option (List D) := fun _ _ => some []
def xLst (g : Str → List (Str × D) → Option (List D)) : FX := fun c fs => (g c fs).map .lst
def xTup (g : Str → List (Str × D) → Option (List D)) : FX := fun c fs => (g c fs).map .tup
def xAt (rows : List XRow) (f : Str) : FX := fun c fs => (xrow rows c).bind fun r => if r.flds.contains f = true then fs.lookup f else none
def xIs (rows : List XRow) (owns : List Str) (tys : List String) (t : D) : FX := fun c _ => (xTab rows owns tys c t).map .bl
def xAnd (f g : FX) : FX := fun c fs => match f c fs with
  | some (.bl true) => g c fs
  | some (.bl false) => some (.bl false)
  | _ => none
def xNot (f : FX) : FX := fun c fs => match f c fs with
  | some (.bl b) => some (.bl (!b))
  | _ => none
def xRepr (f : FX) : FX := fun c fs => (f c fs).bind fun d => fRepr [d]
section
variable {X : Cx} {nm : Option Nat} {e e2 : PySem.Expr} {es rest : List PySem.Expr} {f g : FX} {fs : Str → List (Str × D) → Option (List D)} {pos pos2 : Pos}
theorem sex_c {d : D} {v : V} (h : ∀ a pn, PE (X.suite a pn) e (tC v)) (r : ∀ B, Rep X.K B v d) : SEx X nm e (xC d) := ⟨fun a oe cls dd pn c fs dv hf hz hv B al m σ H Q wd rx at_ k pins s I => by
  cases hf
  exact (h a _).run pins s σ H Q I (k B v H (Ex.refl B) wd (r B))⟩
theorem sex_str {x : Str} {j : Nat} : SEx X nm (.Constant (.str x) j pos) (xC (.str x)) := sex_c (fun _ _ => pe_str) fun _ => .str x
theorem sex_int {i : Int} {j : Nat} : SEx X nm (.Constant (.int i) j pos) (xC (.int i)) := sex_c (fun _ _ => pe_int) fun _ => .int i
theorem sex_non {j : Nat} : SEx X nm (.Constant .none j pos) (xC .non) := sex_c (fun _ _ => pe_non) fun _ => .non
theorem sexs_nil : SExs X nm [] xNil := ⟨fun a oe cls d pn c fs dv hf hz hv B al m σ H Q wd rx at_ k pos pins s I => by
  cases hf
  exact pa_nil.run pos pins s σ H Q I (k B [] H (Ex.refl B) wd .nil)⟩
theorem sexs_cons (h1 : SEx X nm e f) (h2 : SExs X nm es fs) (hs : noStar e = true := by rfl) : SExs X nm (e :: es) (xCons f fs) := ⟨fun a oe cls d pn c fl dv hf hz hv B al m σ H Q wd rx at_ k pos pins s I => by
  unfold xCons at hf
  split at hf
  · next d1 r e1 e2 =>
    cases hf
    refine (pa_cons (X := X.suite a ((a, oe) :: pn)) pe_w pa_w (starEach_cons hs)).run pos pins s σ H Q I ?_
    refine h1.run a oe cls d pn c fl d1 e1 hz hv B al m σ H _ wd rx at_ fun B1 v1 H1 x1 wd1 r1 => ?_
    refine h2.run a oe cls d pn c fl r e2 hz hv B1 al m σ H1 _ wd1 (rx.mono x1) at_ fun B2 vs H2 x2 wd2 r2 => ?_
    exact k B2 (v1 :: vs) H2 (x1.trans x2) wd2 (.cons (r1.mono x2) r2)
  · cases hf⟩
theorem SExs.length (h : ∀ c fl dv, fs c fl = some dv → dv.length = es.length) {c : Str} {fl : List (Str × D)} {dv : List D} (e : fs c fl = some dv) : dv.length = es.length := h c fl dv e
theorem sex_lst (h : SExs X nm es fs) (hl : ∀ c fl dv, fs c fl = some dv → dv.length ≤ LIM) : SEx X nm (.List es pos) (xLst fs) := ⟨fun a oe cls d pn c fl dv hf hz hv B al m σ H Q wd rx at_ k pins s I => by
  obtain ⟨ds, e1, rfl⟩ := Option.map_eq_some_iff.mp hf
  refine (pe_lst (X := X.suite a ((a, oe) :: pn)) pa_w).run pins s σ H Q I ?_
  refine h.run a oe cls d pn c fl ds e1 hz hv B al m σ H _ wd rx at_ fun B1 vs H1 x1 wd1 r1 => ?_
  refine ⟨lim_ok (by rw [r1.length]; exact hl _ _ _ e1), fun p hp => ?_⟩
  have gr := Gr.lay wd1.ext (o := .lst vs) hp
  exact k _ _ _ (x1.trans gr.b) (wd1.grow gr) (.lst (.inl (.inl upd_same)) (r1.mono gr.b))⟩
theorem sex_tup {kk : Nat} (h : SExs X nm es fs) (hl : ∀ c fl dv, fs c fl = some dv → dv.length ≤ LIM) : SEx X nm (.Tuple es kk pos) (xTup fs) := ⟨fun a oe cls d pn c fl dv hf hz hv B al m σ H Q wd rx at_ k pins s I => by
  obtain ⟨ds, e1, rfl⟩ := Option.map_eq_some_iff.mp hf
  refine (pe_tup (X := X.suite a ((a, oe) :: pn)) pa_w).run pins s σ H Q I ?_
  refine h.run a oe cls d pn c fl ds e1 hz hv B al m σ H _ wd rx at_ fun B1 vs H1 x1 wd1 r1 => ?_
  refine ⟨lim_ok (by rw [r1.length]; exact hl _ _ _ e1), fun p hp => ?_⟩
  have gr := Gr.lay wd1.ext (o := .tup vs) hp
  exact k _ _ _ (x1.trans gr.b) (wd1.grow gr) (.tup (.inl (.inl upd_same)) (r1.mono gr.b))⟩
theorem xCons_len {n : Nat} (h : ∀ c fl dv, fs c fl = some dv → dv.length ≤ n) : ∀ c fl dv, xCons f fs c fl = some dv → dv.length ≤ n + 1 := fun c fl dv e => by
  unfold xCons at e
  split at e
  · next e2 => cases e; exact Nat.succ_le_succ (h _ _ _ e2)
  · cases e
theorem xNil_len : ∀ c fl dv, xNil c fl = some dv → dv.length ≤ 0 := fun _ _ _ e => by cases e; exact Nat.le_refl _
theorem len_lim {n : Nat} (h : ∀ c fl dv, fs c fl = some dv → dv.length ≤ n) (hn : n ≤ LIM := by decide) : ∀ c fl dv, fs c fl = some dv → dv.length ≤ LIM := fun c fl dv e => Nat.le_trans (h c fl dv e) hn
/-- the name of the exception -/
theorem pe_exn {i : Nat} {n : Str} {p : Pos} {a : Addr} {pn : List (Addr × Obj)} (hN : X.N[i]? = some n) (hv : Vis X.env.scope n) (hd : (n == ("__debug__" : Str)) = false := by decide) (hcd : (n == ("__classdict__" : Str)) = false := by decide) : PE (X.suite a pn) (.Name n p) (tVar i) := pe_var (X := X.suite a pn) hN hv hd hcd
/-- e.f -/
theorem sex_at {i : Nat} {n f : Str} {p : Pos} {rows : List XRow} {owns : List Str} {tys : List String} (TX : exAll rows owns tys X.K = true) (hN : X.N[i]? = some n) (hv : Vis X.env.scope n) (hd : (n == ("__debug__" : Str)) = false := by decide) (hcd : (n == ("__classdict__" : Str)) = false := by decide)
    (hb : attributeBase (.Name n p) f X.env (eval (.Name n p) X.env) = eval (.Name n p) X.env := by rfl) : SEx X (some i) (.Attribute (.Name n p) f pos) (xAt rows f) := ⟨fun a oe cls d pn c fl dv hf hz hv' B al m σ H Q wd rx at_ k pins s I => by
  obtain ⟨r, er, hf'⟩ := Option.bind_eq_some_iff.mp hf
  obtain ⟨mem, rfl⟩ := xrow_mem er
  obtain ⟨p1, p2, _⟩ := XRow.parts (exAll_row TX mem)
  split at hf'
  · next hc =>
    refine (pe_xf (te := tVar i) (exB_xf p1) (p2 f (by simpa using hc)) hz hv' (pe_exn hN hv hd hcd) hb).run pins s σ H Q I ?_
    obtain ⟨e1, ⟨e2, e3⟩ | ⟨dx, gs, e2, e3, rf⟩⟩ := rx
    · subst e3; cases hf'
    · rcases repF_lookup (f := f) rf with ⟨z, _⟩ | ⟨d', v, z1, z2, z3⟩
      · rw [z] at hf'; cases hf'
      · rw [z1] at hf'; cases hf'
        exact ⟨_, at_ i rfl, rfl, e1, dx, gs, v, e2, wd.ext _ _ e3, z2, k B v H (Ex.refl B) wd z3⟩
  · cases hf'⟩
/-- isinstance(e, T), asked in the suite -/
theorem call_isEx {a D : Addr} {oe : Obj} {d : Option Addr} {pn : List (Addr × Obj)} (C : IsC X.K D) (hz : Zc (.ref D) d oe) (hf : ∃ vs, oe.data = .fields vs) : CallR (X.suite a ((a, oe) :: pn)) (.builtin "isinstance")
    (fun xs H Q => ∃ (y : V) (cv : Value) (b : Bool), xs = [.ref a, y] ∧ (∀ u, RelV y u → u = cv) ∧ PySem.W.kitOne X.K (.ref D) cv = some b ∧ (∀ dx, d = some dx → ∃ gs, H dx = some (.xd gs)) ∧ Q (.bl b) H) := by
  intro pins s σ H xs us Q I r h
  obtain ⟨y, cv, b, rfl, hcv, e, hd, q⟩ := h
  obtain ⟨u1, u2, rfl, r1, r2⟩ := vals2 r
  cases r1
  have := hcv _ r2
  subst this
  obtain ⟨there, _⟩ := I.pin (a, oe) (List.mem_append_left _ List.mem_cons_self)
  obtain ⟨vs, dat⟩ := hf
  obtain ⟨oc, od, oda, osl⟩ := oe
  obtain ⟨z1, z2⟩ := hz
  dsimp only at z1 z2 dat
  subst z1 z2 dat
  cases od with
  | none => exact PySem.W.kia_one (PySem.W.kitx_exc (od := none) C.cl C.ga C.gg C.ex C.ha C.hn C.tk C.hm) I.kIn ⟨there, rfl, rfl, trivial⟩ e (fun z => nomatch z) fun tk => ⟨.bl b, H, I.tok tk, rfl, q⟩
  | some dx =>
    obtain ⟨gs, eg⟩ := hd dx rfl
    obtain ⟨mA, hns, hr⟩ := (show ObjOk X.prog X.w H s.heap dx (.xd gs) from I.hok dx _ eg)
    obtain ⟨ob, hod, hl⟩ := lookIn_ns hns
    exact PySem.W.kia_one (PySem.W.kitx_exc (od := some ob) C.cl C.ga C.gg C.ex C.ha C.hn C.tk C.hm) I.kIn ⟨there, rfl, rfl, hod⟩ e (fun z => nomatch z) fun tk => ⟨.bl b, H, I.tok tk, rfl, q⟩
theorem sex_is {i : Nat} {n : Str} {p1 p : Pos} {rows : List XRow} {owns : List Str} {tys : List String} {t : D} {v : V} (TX : exAll rows owns tys X.K = true) (hg : Gl X "isinstance") (hm : X.mg "isinstance" = none) (hN : X.N[i]? = some n) (hv : Vis X.env.scope n)
    (h2 : ∀ a pn, PE (X.suite a pn) e2 (tC v)) (hr : ∀ u w, RelV v u → clsD X.K t = some w → u = w) (hs : noStar e2 = true := by rfl) (hd : (n == ("__debug__" : Str)) = false := by decide) (hcd : (n == ("__classdict__" : Str)) = false := by decide) :
    SEx X (some i) (.Call (.Name "isinstance" p1) [.Name n p, e2] [] pos) (xIs rows owns tys t) := ⟨fun a oe cls d pn c fl dv hf hz hv' B al m σ H Q wd rx at_ k pins s I => by
  obtain ⟨b, hb, rfl⟩ := Option.map_eq_some_iff.mp hf
  obtain ⟨C, u, hu, hk⟩ := (exAll_tab TX).ok c t b hb
  obtain ⟨e1, ed⟩ := rx
  subst e1
  refine (pe_callB (X := X.suite a ((a, oe) :: pn)) (call_isEx C hz hv') hg hm bt_isinstance (pa_cons (pe_exn hN hv hd hcd) (pa_cons (h2 a _) pa_nil (starEach_cons hs))) (by decide) (by decide) rfl (star_any (es := [e2]) (by rw [List.all_cons, hs]; rfl))).run pins s σ H Q I ?_
  refine ⟨_, at_ i rfl, ?_⟩
  show ∃ (y : V) (cv : Value) (b : Bool), _
  refine ⟨v, u, b, rfl, fun w hw => hr w u hw hu, hk, fun dx e => ?_, k B _ H (Ex.refl B) wd (.bl b)⟩
  rcases ed with ⟨z, _⟩ | ⟨dx', gs, z, z2, _⟩
  · rw [z] at e; cases e
  · rw [z] at e; cases e
    exact ⟨gs, wd.ext _ _ z2⟩⟩
theorem cd_repr0 {X : Cx} (un0 : X.A.units + 200 < cLine) (sm0 : ∃ mm, X.base.Ns sysModules mm) (gd0 : X.A.guards = some []) : CallR X (.builtin "repr") (rCD X fRepr) := by
  rintro pins s σ H xs us Q I rs ⟨B, ds, d, e, hx, hf, k⟩
  unfold fRepr at hf
  split at hf
  · next dd =>
    split at hf
    · next hl =>
      cases hf
      obtain ⟨x, rfl, hv⟩ := vwl1 hx
      obtain ⟨u, rfl, rx⟩ := vals1 rs
      obtain ⟨as, ra, na⟩ := (hv.rep e).reads I sm0 (n := 60) (.inr hl.1) rx
      obtain ⟨p1, d1⟩ := shD_ok 60 dd hl.1
      have hz := lim_ok (Nat.le_trans (shown_le 60 dd hl.1) hl.2)
      have un := un0
      have fin : ∀ {t : Tok} {s' : Shared}, Inv X pins σ H s' → EP X pins σ Q (.str (py dd).shown t) s' := fun I' => ⟨.str _, H, I', ⟨_, rfl⟩, k B _ H (Gr.refl e) (.str _)⟩
      have ref : ∀ {a : Addr}, x = .ref a → wpAny (model X.prog X.w) X.A (call (.builtin "repr") [u]) (EP X pins σ Q) X.xe s := fun {a} ea => by
        subst ea
        cases (show u = Value.ref a from rx)
        exact repr_of_reads' ra p1 (fun _ => na) gd0 (by omega) (fun _ _ z => z) (fun h' u' tk hk => fin (I.kept (t' := tk) hk)) hz
      have hr := hv.rep e
      cases hr with
      | non => cases (show u = Value.none from rx); exact PySem.P.repr_of_none (fin (I.tok _))
      | bl b => cases (show u = Value.bool b from rx); exact PySem.P.repr_of_bool (fin (I.tok _))
      | int i => obtain ⟨t, rfl⟩ := rx; exact PySem.P.repr_of_int (by have := of_decide_eq_true (show decide (i.natAbs.log2 < 1900) = true from hl.1); omega) (fin (I.tok _))
      | str z => obtain ⟨t, rfl⟩ := rx; exact PySem.P.repr_of_str (fin (I.tok _)) hz
      | tup => exact ref rfl
      | lst => exact ref rfl
      | dct => exact ref rfl
      | dctT => exact ref rfl
      | ty => cases hl.1
      | cl => cases hl.1
      | obj => cases hl.1
      | exc0 => cases hl.1
      | exc => cases hl.1
    · cases hf
  · cases hf

theorem sex_repr (R : Rm X) (hg : Gl X "repr") (hm : X.mg "repr" = none) (h : SEx X nm e f) (h0 : noStar e = true := by rfl) : SEx X nm (.Call (.Name "repr" pos) [e] [] pos2) (xRepr f) := ⟨fun a oe cls d pn c fl dv hf hz hv B al m σ H Q wd rx at_ k pins s I => by
  obtain ⟨d1, e1, e2⟩ := Option.bind_eq_some_iff.mp hf
  refine (pe_callB (X := X.suite a ((a, oe) :: pn)) (cd_repr0 R.un R.sm R.gd) hg hm bt_repr (pa_cons pe_w pa_nil (starEach_cons h0)) (by decide) (by decide) (starEach_cons h0) (star_any (es := []) rfl)).run pins s σ H Q I ?_
  refine h.run a oe cls d pn c fl d1 e1 hz hv B al m σ H _ wd rx at_ fun B1 v1 H1 x1 wd1 r1 => ?_
  exact ⟨B1, [d1], dv, wd1.ext, ⟨Rep.vw wd1.ext r1, trivial⟩, e2, fun B2 v2 H2 gr r2 => k B2 v2 H2 (x1.trans gr.b) (wd1.grow gr) r2⟩⟩
theorem sex_one {op : BoolOp} (h : SEx X nm e f) : SEx X nm (.BoolOp op [e] pos) f := ⟨fun a oe cls d pn c fl dv hf hz hv B al m σ H Q wd rx at_ k pins s I => (pe_one (X := X.suite a ((a, oe) :: pn)) pe_w).run pins s σ H Q I (h.run a oe cls d pn c fl dv hf hz hv B al m σ H Q wd rx at_ k)⟩
theorem sex_and (h1 : SEx X nm e f) (h2 : SEx X nm (.BoolOp .And (e2 :: rest) pos) g) : SEx X nm (.BoolOp .And (e :: e2 :: rest) pos) (xAnd f g) := ⟨fun a oe cls d pn c fl dv hf hz hv B al m σ H Q wd rx at_ k pins s I => by
  refine (pe_and (X := X.suite a ((a, oe) :: pn)) pe_w pe_w).run pins s σ H Q I ?_
  unfold xAnd at hf
  split at hf
  · next e1 =>
    refine h1.run a oe cls d pn c fl _ e1 hz hv B al m σ H _ wd rx at_ fun B1 v1 H1 x1 wd1 r1 => ?_
    cases r1
    refine ⟨true, rfl, ?_⟩
    rw [if_pos rfl]
    exact h2.run a oe cls d pn c fl dv hf hz hv B1 al m σ H1 _ wd1 (rx.mono x1) at_ fun B2 v2 H2 x2 => k B2 v2 H2 (x1.trans x2)
  · next e1 =>
    cases hf
    refine h1.run a oe cls d pn c fl _ e1 hz hv B al m σ H _ wd rx at_ fun B1 v1 H1 x1 wd1 r1 => ?_
    cases r1
    refine ⟨false, rfl, ?_⟩
    rw [if_neg Bool.false_ne_true]
    exact k B1 _ H1 x1 wd1 (.bl false)
  · cases hf⟩
theorem sex_not (h1 : SEx X nm e f) : SEx X nm (.UnaryOp .Not e pos) (xNot f) := ⟨fun a oe cls d pn c fl dv hf hz hv B al m σ H Q wd rx at_ k pins s I => by
  refine (pe_not (X := X.suite a ((a, oe) :: pn)) pe_w).run pins s σ H Q I ?_
  unfold xNot at hf
  split at hf
  · next b e1 =>
    cases hf
    refine h1.run a oe cls d pn c fl _ e1 hz hv B al m σ H _ wd rx at_ fun B1 v1 H1 x1 wd1 r1 => ?_
    cases r1
    exact ⟨b, rfl, k B1 _ H1 x1 wd1 (.bl _)⟩
  · cases hf⟩
end
end Dm
set_option maxHeartbeats 2000000
/-! Dm, part 65: try .. except. -/
namespace Dm
open PySem PySem.Spec PyProof.Rows L2
open Evl (Ex)
variable [Lams]
/-- one clause: its class, the slot of its name, the slot that its suite stores, what it stores -/
structure Cl where
  c : Str
  nm : Option Nat
  j : Nat
  f : FX
def putS (ρ : Slots) (j : Nat) (d : D) : Option Nat → Slots
  | none => ρ.set j (some (.dat d))
  | some i => ((ρ.set i none).set j (some (.dat d))).set i none
def inR (ρ : Slots) : Option Nat → Bool
  | none => true
  | some i => decide (i < ρ.length)
/-- the first clause that takes it -/
def catchS (rows : List XRow) : List Cl → Str → List (Str × D) → Slots → Mem → SR
  | [], c, fs, ρ, m => some (.ex c fs ρ, m)
  | k :: r, c, fs, ρ, m => match xrow rows c with
    | none => none
    | some row => if row.anc.contains k.c = true then (match k.f c fs with
      | some d => if inR ρ k.nm = true then some (.nx (putS ρ k.j d k.nm), m) else none
      | none => none) else catchS rows r c fs ρ m
def sTry (rows : List XRow) (cls : List Cl) (mb : SM) : SM := fun ρ m => match mb ρ m with
  | some (.ex c fs ρ1, m1) => catchS rows cls c fs ρ1 m1
  | r => r
/-- which exception classes the clauses take -/
def exmB (rows : List XRow) (hs : List Str) (K : PySem.W.Frag) : Bool := rows.all fun r => hs.all fun h => decide (PySem.W.exmOne K (.ref (He.ga K r.c)) (.ref (He.ga K h)) = some (r.anc.contains h))
structure SuOk (X : Cx) (nm : Option Nat) (j : Nat) (f : FX) (sts : List Stmt) : Prop where
  run : ∀ (a : Addr) (oe : Obj) (cls : Value) (d : Option Addr) (pn : List (Addr × Obj)) (c : Str) (fs : List (Str × D)) (dv : D), f c fs = some dv → Zc cls d oe → (∃ vs, oe.data = .fields vs) → ∀ (B : Hp) (al : Pl) (m : Mem) (σ : L2.St) (H : Hp) (D : Ends), Wd X.K B al m H → RepX X.K B cls d c fs → At σ nm a →
    (∀ B' v H', Ex B B' → Wd X.K B' al m H' → Rep X.K B' v dv → D.nx (σ.set j (some v)) H') → wSs (X.suite a ((a, oe) :: pn)) sts D σ H
theorem su_set {X : Cx} {nm : Option Nat} {j : Nat} {f : FX} {y : Str} {e : PySem.Expr} {p pos : Pos} (hN : X.N.Nodup) (hj : X.N[j]? = some y) (hy : Loc X.env.scope y) (h : SEx X nm e f) (hs : swapsWith e (some (.Name y p)) pos.line X.env = pure false) (hf : X.fn y = true ∨ X.env.scope.names.lookup y = some .local) : SuOk X nm j f [.Assign [.Name y p] e pos] :=
  ⟨fun a oe cls d pn c fs dv ef hz hv B al m σ H D wd rx at_ k pins s I => (pss_one (X := X.suite a ((a, oe) :: pn)) (ps_set (X := X.suite a ((a, oe) :: pn)) hN hj hy pe_w hs hf)).run pins s σ H D I (h.run a oe cls d pn c fs dv ef hz hv B al m σ H _ wd rx at_ k)⟩
inductive HdM (X : Cx) : List ExceptHandler → List Cl → Prop
  | nil : HdM X [] []
  | cons {x : Str} {nm : Option Str} {k : Cl} {st : Stmt} {sts : List Stmt} {p1 p2 : Pos} {hs : List ExceptHandler} {l : List Cl} (names : Names X x (.ref (He.ga X.K k.c))) (slot : ∀ n, nm = some n → ∃ i, k.nm = some i ∧ X.N[i]? = some n ∧ X.env.kindOf n = some .local) (noName : nm = none → k.nm = none)
      (su : SuOk X k.nm k.j k.f (st :: sts)) (r : HdM X hs l) : HdM X (.ExceptHandler (some (.Name x p1)) nm (st :: sts) p2 :: hs) (k :: l)
/-- the clause as the rule wants it -/
def Cl.hn (X : Cx) (k : Cl) (sts : List Stmt) : Hn := ⟨.ref (He.ga X.K k.c), k.nm, fun a cls d D σ H => ∀ (oe : Obj) (pn : List (Addr × Obj)), Zc cls d oe → (∃ vs, oe.data = .fields vs) → wSs (X.suite a ((a, oe) :: pn)) sts D σ H⟩
section
variable {X : Cx} {rows : List XRow} {hcl : List Str}
theorem RepS.put {K : PySem.W.Frag} {B : Hp} {al : Pl} {n : Nat} {σ : L2.St} {ρ : Slots} {v : V} {d : D} {a : Addr} {j : Nat} {nm : Option Nat} (rs : RepS K B al n σ ρ) (r : Rep K B v d) : RepS K B al n (match nm with
    | none => (putN σ a nm).set j (some v)
    | some i => ((putN σ a nm).set j (some v)).set i none) (putS ρ j d nm) := by
  cases nm with
  | none => exact rs.set (w := .dat d) r
  | some i => exact ((rs.wipe i (some (.ref a))).set (w := .dat d) r).wipe i none
/-- the clauses' wishes are what the mirror says -/
theorem wHs_of (EM : exmB rows hcl X.K = true) {W0 : WX} {Dn : Ends} {hs : List ExceptHandler} {cls : List Cl} (hm : HdM X hs cls) (hin : ∀ k ∈ cls, k.c ∈ hcl) : ∃ l : List Hn, Hns X hs l ∧
    ∀ {c : Str} {fs : List (Str × D)} {ρ : Slots} {m : Mem} {f : Fl} {m' : Mem} {B : Hp} {al : Pl} {n : Nat}, catchS rows cls c fs ρ m = some (f, m') → (∀ {f : Fl}, catchS rows cls c fs ρ m = some (f, m') → AnsF X B al n Dn m' f) → (∀ ρ2, f = .ex c fs ρ2 → ∀ B' al' σ' cl oa H', Ex B B' → Agr n al al' → Wd X.K B' al' m' H' → RepS X.K B' al' m'.length σ' ρ2 → RepX X.K B' cl oa c fs → W0 cl oa σ' H') →
      ∀ {B' : Hp} {al' : Pl} {σ' : L2.St} {cl : Value} {oa : Option Addr} {H' : Hp}, Ex B B' → Agr n al al' → Wd X.K B' al' m H' → RepS X.K B' al' m.length σ' ρ → RepX X.K B' cl oa c fs → wHs X.K W0 Dn l cl oa σ' H' := by
  induction hm with
  | nil =>
    refine ⟨[], .nil, fun {c fs ρ m f m' B al n} q ans w0 {B' al' σ' cl oa H'} x g wd rs rx => ?_⟩
    cases q
    exact w0 ρ rfl B' al' σ' cl oa H' x g wd rs rx
  | @cons x nm k st sts p1 p2 hs l names slot noName su r ih =>
    obtain ⟨l2, h2, go⟩ := ih fun k hk => hin k (List.mem_cons_of_mem _ hk)
    refine ⟨k.hn X (st :: sts) :: l2, .cons names slot noName (fun a oe cls d pn hz hv => ⟨fun pins s σ H D I h => h oe pn hz hv pins s I⟩) h2, fun {c fs ρ m f m' B al n} q ans w0 {B' al' σ' cl oa H'} x g wd rs rx => ?_⟩
    unfold catchS at q
    split at q
    · cases q
    · next row er =>
      obtain ⟨mem, rfl⟩ := xrow_mem er
      have isB : PySem.W.exmOne X.K (.ref (He.ga X.K row.c)) (.ref (He.ga X.K k.c)) = some (row.anc.contains k.c) := of_decide_eq_true (List.all_eq_true.mp (List.all_eq_true.mp EM row mem) k.c (hin k List.mem_cons_self))
      obtain ⟨e1, ed⟩ := id rx
      subst e1
      refine ⟨_, isB, fun yes => ?_, fun no => ?_⟩
      · rw [if_pos yes] at q
        have q0 := q
        split at q
        · next d ed =>
          split at q
          · next hin =>
            cases q
            intro a fresh oe pn hz hv
            have at_ : At (putN σ' a k.nm) k.nm a := fun i ei => by
              show (putN σ' a k.nm)[i]? = _
              rw [ei]
              show (σ'.set i (some (.ref a)))[i]? = _
              have hi : i < ρ.length := by rw [ei] at hin; exact of_decide_eq_true hin
              rw [List.getElem?_set_self (by rw [rs.1]; exact hi)]
            refine su.run a oe _ oa pn row.c fs d ed hz hv B' al' m _ H' _ wd rx at_ fun B2 v H2 x2 wd2 r2 => ?_
            have A := ans (f := .nx (putS ρ k.j d k.nm)) (by
              unfold catchS
              rw [er]
              show (if row.anc.contains k.c = true then _ else _) = _
              rw [if_pos yes]
              exact q0)
            have rs2 := (rs.mono x2 (Agr.refl (n := m.length)) (Nat.le_refl _)).put (a := a) (j := k.j) (nm := k.nm) r2
            have A2 := A B2 al' _ H2 (x.trans x2) g wd2 rs2
            show (wipeE Dn k.nm).nx ((putN σ' a k.nm).set k.j (some v)) H2
            cases hnm : k.nm with
            | none => rw [hnm] at A2; exact A2
            | some i => rw [hnm] at A2; exact A2
          · cases q
        · cases q
      · rw [if_neg (by rw [no]; exact Bool.false_ne_true)] at q
        refine go q (fun {f} qf => ans (by
          unfold catchS
          rw [er]
          show (if row.anc.contains k.c = true then _ else _) = _
          rw [if_neg (by rw [no]; exact Bool.false_ne_true)]
          exact qf)) w0 x g wd rs rx
end
theorem catch_len {rows : List XRow} : ∀ {cls : List Cl} {c : Str} {fs : List (Str × D)} {ρ : Slots} {m : Mem} {f : Fl} {m' : Mem}, catchS rows cls c fs ρ m = some (f, m') → m' = m
  | [], _, _, _, _, _, _, q => by cases q; rfl
  | k :: r, _, _, _, _, _, _, q => by
    unfold catchS at q
    split at q
    · cases q
    · split at q
      · split at q
        · split at q
          · cases q; rfl
          · cases q
        · cases q
      · exact catch_len q
theorem catch_ex {rows : List XRow} : ∀ {cls : List Cl} {c : Str} {fs : List (Str × D)} {ρ : Slots} {m : Mem} {c2 : Str} {fs2 : List (Str × D)} {ρ2 : Slots} {m' : Mem}, catchS rows cls c fs ρ m = some (.ex c2 fs2 ρ2, m') → c2 = c ∧ fs2 = fs
  | [], _, _, _, _, _, _, _, _, q => by cases q; exact ⟨rfl, rfl⟩
  | k :: r, _, _, _, _, _, _, _, _, q => by
    unfold catchS at q
    split at q
    · cases q
    · split at q
      · split at q
        · split at q
          · cases q
          · cases q
        · cases q
      · exact catch_ex q
theorem ss_try {X : Cx} {N : List Str} {sc : Scope} {k : Nat} {rows : List XRow} {hcl : List Str} {bd : List Stmt} {h1 : ExceptHandler} {hs : List ExceptHandler} {cls : List Cl} {mb : SM} {pos : Pos} (gF : GoodF X N sc k) (EM : exmB rows hcl X.K = true) (hin : ∀ k ∈ cls, k.c ∈ hcl) (hm : HdM X (h1 :: hs) cls)
    (hb : ∀ pn xe, Good (X.tr pn xe) N sc k (fun _ => true) → SSs (X.tr pn xe) bd mb) : SS X (.Try bd (h1 :: hs) [] [] pos) (sTry rows cls mb) := by
  have gt : ∀ pn xe, Good (X.tr pn xe) N sc k (fun _ => true) := fun pn xe => ⟨gF.N, gF.sc, gF.room, gF.gd, gF.calm, gF.fn, gF.nd, gF.sm⟩
  refine ⟨fun ρ m f m' q => ?_, fun ρ m f m' q B al σ H Dn wd rs h pins s I => ?_⟩
  · unfold sTry at q
    split at q
    · next c fs ρ1 m1 e1 =>
      rw [catch_len q]
      exact (hb [] (fun _ _ => True) (gt _ _)).len _ _ _ _ e1
    · next e1 => exact (hb [] (fun _ _ => True) (gt _ _)).len _ _ _ _ q
  · -- the wish beyond the clauses
    obtain ⟨W0, tk, hw0⟩ : ∃ W0 : WX, Takes X W0 ∧ ∀ c fs ρ2, f = .ex c fs ρ2 → ∀ B' al' σ' cl oa H', Ex B B' → Agr m.length al al' → Wd X.K B' al' m' H' → RepS X.K B' al' m'.length σ' ρ2 → RepX X.K B' cl oa c fs → W0 cl oa σ' H' := by
      cases f with
      | ex c fs ρ2 =>
        obtain ⟨Wx, t, a⟩ := h
        exact ⟨Wx, t, fun c' fs' ρ' e => by cases e; exact a⟩
      | nx ρ2 => exact ⟨_, takes0, fun _ _ _ e => nomatch e⟩
      | rt w => exact ⟨_, takes0, fun _ _ _ e => nomatch e⟩
      | bk ρ2 => exact ⟨_, takes0, fun _ _ _ e => nomatch e⟩
      | ct ρ2 => exact ⟨_, takes0, fun _ _ _ e => nomatch e⟩
    obtain ⟨l, hl, go⟩ := wHs_of (W0 := W0) (Dn := Dn) EM hm hin
    refine (ps_tryN (rb := fun W Dn σ H => ∀ (pn : List (Addr × Obj)) (xe : Value → Shared → Prop), Takes (X.tr pn xe) W → wSs (X.tr pn xe) bd Dn σ H) gF.stk gF.frm gF.nd tk (fun W pn xe t _ => ⟨fun pins s σ H D I h => h pn xe t pins s I⟩) hl).run pins s σ H Dn I fun pn xe t => ?_
    have b := hb pn xe (gt pn xe)
    have lenB := b.len
    unfold sTry at q
    split at q
    · next c fs ρ1 m1 e1 =>
      refine b.run ρ m _ m1 e1 B al σ H Dn wd rs ⟨_, t, fun B1 al1 σ1 cl oa H1 x1 g1 wd1 rs1 rx => ?_⟩
      have em := catch_len q
      subst em
      exact go q (fun {f2} q2 => by
        have : (f2, m') = (f, m') := Option.some.inj (q2.symm.trans q)
        cases this
        exact h) (fun ρ2 e => hw0 c fs ρ2 e) x1 g1 wd1 rs1 rx
    · next hne =>
      refine b.run ρ m f m' q B al σ H Dn wd rs ?_
      cases f with
      | ex c fs ρ2 => exact absurd q (hne c fs ρ2 m')
      | nx ρ2 => exact h
      | rt w => exact h
      | bk ρ2 => exact h
      | ct ρ2 => exact h
end Dm
set_option maxHeartbeats 2000000
/-! Dm, part 66: methods that read data; f-strings; own exceptions raised by the short words. -/
namespace Dm
open PySem PySem.Spec PyProof.Rows L2
open Evl (Ex)
variable [Lams]
/-! ### o.m(..), reading alone -/
def rM (X : Cx) (f : D → List D → Option D) : V → List V → Hp → VK → Prop := fun x xs H Q => ∃ (B : Hp) (dx : D) (ds : List D) (d : D), Ex B H ∧ Vw X.K B H x dx ∧ VwL X.K B H xs ds ∧ f dx ds = some d ∧ ∀ B' v H', Gr B B' H H' → Rep X.K B' v d → Q v H'
def tyD : String → D → Bool
  | "str", .str _ => true
  | "int", .int _ => true
  | "list", .lst _ => true
  | _, _ => false
theorem tyD_ok {X : Cx} {B H : Hp} {T : String} {x : V} {d : D} (h : tyD T d = true) (hx : Vw X.K B H x d) : L2.tyV X.K T x H := by
  unfold tyD at h
  split at h
  · cases (show Rep X.K B x (.str _) from hx); rfl
  · cases (show Rep X.K B x (.int _) from hx); rfl
  · obtain ⟨a, vs, rfl, q, r⟩ := hx
    exact .inl ⟨rfl, vs, q⟩
  · cases h
def mMb (T : String) (f : D → List D → Option D) (mo : EM) (ma : AM) : EM := fun ρ m => bnd (mo ρ m) fun w m1 => match view m1 w with
  | some d0 => if tyD T d0 = true then bnd (ma ρ m1) fun ws m2 => (match view m2 w, views m2 ws with
    | some dx, some ds => (match f dx ds with
      | some d => rd d m2
      | none => none)
    | _, _ => none) else none
  | none => none
theorem mb_inv {f : D → List D → Option D} {w : W} {ws : List W} {m2 m' : Mem} {o : Out W} (q : (match view m2 w, views m2 ws with
    | some dx, some ds => (match f dx ds with
      | some d => (rd d m2 : Run W)
      | none => none)
    | _, _ => none) = some (o, m')) : ∃ dx ds d, view m2 w = some dx ∧ views m2 ws = some ds ∧ f dx ds = some d ∧ o = .ok (.dat d) ∧ m' = m2 := by
  split at q
  · next dx ds e1 e2 =>
    split at q
    · next d e3 => cases q; exact ⟨dx, ds, d, e1, e2, e3, rfl, rfl⟩
    · cases q
  · cases q
section
variable {X : Cx} {o e : PySem.Expr} {es : List PySem.Expr} {mo : EM} {ma : AM} {T : String} {f : D → List D → Option D} {apos cpos : Pos} {id : String} {name : Str}
theorem mb_len (ho : SE X o mo) (ha : ∀ ρ m o m', ma ρ m = some (o, m') → m.length ≤ m'.length) : ∀ ρ m oo m', mMb T f mo ma ρ m = some (oo, m') → m.length ≤ m'.length := fun ρ m oo m' q =>
  bnd_len q (ho.len ρ m) fun w m1 q1 => by
    split at q1
    · split at q1
      · exact bnd_len q1 (ha ρ m1) fun ws m2 q2 => by
          obtain ⟨_, _, _, _, _, _, _, rfl⟩ := mb_inv q2
          exact Nat.le_refl _
      · cases q1
    · cases q1
theorem se_mb (pa : PlainAttrs T) (slot : Slot T name id) (hty : typeOf (.builtin id) = pure (.type "method_descriptor")) (hm : MtR X id (rM X f)) (ho : SE X o mo) (ha : SA X (e :: es) ma)
    (hbase : attributeBase o name X.env (eval o X.env) = eval o X.env := by rfl)
    (hfew : ((backTo cpos (starEach (e :: es) X.env)).all (fun x => !x.1) && (backToKw cpos (keywordEach [] X.env)).all (fun x => x.1.isSome)
      && decide ((e :: es).length + ([] : List Keyword).length + (if ([] : List Keyword).isEmpty then 0 else 1) < 30)) = true := by rfl)
    (hline : (apos.endLine == cpos.line) = true := by rfl) (h0 : noStar e = true := by rfl) (h1 : es.all noStar = true := by rfl) : SE X (.Call (.Attribute o name apos) (e :: es) [] cpos) (mMb T f mo ma) := by
  refine ⟨mb_len ho ha.len, fun ρ m oo m' q B al σ H Q wd rs h pins s I => ?_⟩
  refine (pe_bm pa slot hty hm pe_w pa_w hbase hfew hline (starEach_cons h0) (star_any h1)).run pins s σ H Q I ?_
  refine ho.seq q wd rs h.res fun w m1 q1 l1 B1 al1 v1 H1 x1 g1 wd1 r1 => ?_
  split at q1
  · next d0 e0 =>
    split at q1
    · next ht =>
      refine ⟨tyD_ok ht (wd1.view r1 e0), ?_⟩
      refine ha.seq q1 wd1 (rs.mono x1 g1 l1) (fun c fs z => (h.res c fs z).mono x1 g1 l1) fun ws m2 q2 l2 B2 al2 vs H2 x2 g2 wd2 r2 => ?_
      obtain ⟨dx, ds, d, e1, e2, e3, rfl, rfl⟩ := mb_inv q2
      exact ⟨B2, dx, ds, d, wd2.ext, wd2.view (r1.mono x2 g2 l2) e1, wd2.views r2 e2, e3, fun B3 v3 H3 g3 r3 => h B3 al2 v3 H3 ((x1.trans x2).trans g3.b) (g1.trans g2 l1) (wd2.grow g3) r3⟩
    · cases q1
  · cases q1
theorem se_mb0 (pa : PlainAttrs T) (slot : Slot T name id) (hty : typeOf (.builtin id) = pure (.type "method_descriptor")) (hm : MtR X id (rM X f)) (ho : SE X o mo)
    (hbase : attributeBase o name X.env (eval o X.env) = eval o X.env := by rfl) (hline : (apos.endLine == cpos.line) = true := by rfl) : SE X (.Call (.Attribute o name apos) [] [] cpos) (mMb T f mo mNil) := by
  refine ⟨mb_len ho (sa_nil (X := X)).len, fun ρ m oo m' q B al σ H Q wd rs h pins s I => ?_⟩
  refine (pe_bm0 pa slot hty hm pe_w hbase hline).run pins s σ H Q I ?_
  refine ho.seq q wd rs h.res fun w m1 q1 l1 B1 al1 v1 H1 x1 g1 wd1 r1 => ?_
  split at q1
  · next d0 e0 =>
    split at q1
    · next ht =>
      refine ⟨tyD_ok ht (wd1.view r1 e0), ?_⟩
      obtain ⟨dx, ds, d, e1, e2, e3, rfl, rfl⟩ := mb_inv (ws := []) (m2 := m1) (w := w) (f := f) q1
      exact ⟨B1, dx, ds, d, wd1.ext, wd1.view r1 e1, (by cases e2; trivial), e3, fun B3 v3 H3 g3 r3 => h B3 al1 v3 H3 (x1.trans g3.b) g1 (wd1.grow g3) r3⟩
    · cases q1
  · cases q1
end
/-! ### texts -/
def fSplit : D → List D → Option D
  | .str a, [.str b] => if b.length ≠ 0 ∧ a.length < LIM then some (.lst ((Txt.split a b).map .str)) else none
  | _, _ => none
def fUpper : D → List D → Option D
  | .str a, [] => if a.length ≤ LIM then some (.str (Txt.upper a)) else none
  | _, _ => none
section
variable {X : Cx}
theorem mt_split' : MtR X "str.split" (rM X fSplit) := by
  rintro pins s σ H x xs v us Q I rx rxs ⟨B, dx, ds, d, ex, hx, hxs, hf, k⟩
  unfold fSplit at hf
  split at hf
  · next a b =>
    split at hf
    · next hc =>
      cases hf
      cases (show Rep X.K B x (.str a) from hx)
      obtain ⟨y, rfl, hy⟩ := vwl1 hxs
      cases (show Rep X.K B y (.str b) from hy)
      refine mt_split pins s σ H _ _ v us Q I rx rxs ⟨a, b, rfl, rfl, by simpa using hc.1, by have := lim_lt (n := 1000000 - 1) (by decide); have hL : LIM = 1000000 := rfl; have := sizeLine_eq; omega, fun p hp => ?_⟩
      have g := Gr.lay ex (o := .lst ((Txt.split a b).map V.str)) hp
      exact k _ _ _ g (.lst (.inl (.inl upd_same)) (reps_strs _))
    · cases hf
  · cases hf
theorem mt_upper' : MtR X "str.upper" (rM X fUpper) := by
  rintro pins s σ H x xs v us Q I rx rxs ⟨B, dx, ds, d, ex, hx, hxs, hf, k⟩
  unfold fUpper at hf
  split at hf
  · next a =>
    split at hf
    · next hc =>
      cases hf
      cases (show Rep X.K B x (.str a) from hx)
      match xs, hxs with
      | [], _ =>
        have hL : LIM = 1000000 := rfl
        exact mt_upper pins s σ H _ _ v us Q I rx rxs ⟨a, rfl, rfl, by omega, k B _ H (Gr.refl ex) (.str _)⟩
    · cases hf
  · cases hf
end
/-! ### f-strings -/
def fFmt : D → Option D
  | .str y => if y.length ≤ LIM then some (.str y) else none
  | .int i => if i.natAbs.log2 < 1900 then some (.str (toString i)) else none
  | _ => none
theorem se_fmt {X : Cx} {e : PySem.Expr} {me : EM} {pos : Pos} (he : SE X e me) : SE X (.FormattedValue e (-1) none pos) (mUn fFmt me) := by
  refine ⟨un_len he, fun ρ m o m' q B al σ H Q wd rs h pins s I => ?_⟩
  refine (pe_fmt pe_w).run pins s σ H Q I ?_
  refine un_run (r := fun x H Q => (∃ y : Str, x = .str y ∧ y.length ≤ sizeLine ∧ Q (.str y) H) ∨ ∃ i : Int, x = .int i ∧ i.natAbs.log2 < 1920 ∧ Q (.str (toString i)) H) (fun dx d hf B H x e hx Q k => ?_) he q wd rs h
  cases dx with
  | str y =>
    have hf' : (if y.length ≤ LIM then some (D.str y) else none) = some d := hf
    split at hf'
    · next hl =>
      cases hf'
      cases (show Rep X.K B x (.str y) from hx)
      exact .inl ⟨y, rfl, lim_ok hl, k B _ H (Gr.refl e) (.str _)⟩
    · cases hf'
  | int i =>
    have hf' : (if i.natAbs.log2 < 1900 then some (D.str (toString i)) else none) = some d := hf
    split at hf'
    · next hl =>
      cases hf'
      cases (show Rep X.K B x (.int i) from hx)
      exact .inr ⟨i, rfl, by omega, k B _ H (Gr.refl e) (.str _)⟩
    · cases hf'
  | _ => cases hf
def mJs : List EM → Str → Slots → Mem → Run Str
  | [], acc, _, m => ret acc m
  | e :: es, acc, ρ, m => bnd (e ρ m) fun w m1 => match w with
    | .dat (.str y) => if (acc ++ y).length ≤ LIM then mJs es (acc ++ y) ρ m1 else none
    | _ => none
def mJoined (es : List EM) : EM := fun ρ m => bnd (mJs es Str.empty ρ m) fun y m1 => rd (.str y) m1
inductive SJs (X : Cx) : List PySem.Expr → List EM → Prop where
  | nil : SJs X [] []
  | cons {e : PySem.Expr} {me : EM} {es : List PySem.Expr} {ms : List EM} (h : SE X e me) (r : SJs X es ms) : SJs X (e :: es) (me :: ms)
theorem SJs.pj {X : Cx} {es : List PySem.Expr} {ms : List EM} (h : SJs X es ms) : PJ X es (es.map (wE X)) := by
  induction h with
  | nil => exact .nil
  | cons _ _ ih => exact .cons pe_w ih
theorem js_inv {w : W} {m1 m' : Mem} {o : Out Str} {acc : Str} {k : Str → Run Str} (q : (match w with
    | .dat (.str y) => if (acc ++ y).length ≤ LIM then k y else none
    | _ => none) = some (o, m')) : ∃ y, w = .dat (.str y) ∧ (acc ++ y).length ≤ LIM ∧ k y = some (o, m') := by
  split at q
  · split at q
    · next hl => exact ⟨_, rfl, hl, q⟩
    · cases q
  · cases q
theorem js_len {X : Cx} {es : List PySem.Expr} {ms : List EM} (h : SJs X es ms) : ∀ (acc : Str) ρ m o m', mJs ms acc ρ m = some (o, m') → m.length ≤ m'.length := by
  induction h with
  | nil => intro acc ρ m o m' q; cases q; exact Nat.le_refl _
  | cons he r ih =>
    intro acc ρ m o m' q
    refine bnd_len q (he.len ρ m) fun w m1 q1 => ?_
    obtain ⟨y, rfl, _, q2⟩ := js_inv (m1 := m1) (k := fun y => mJs _ (acc ++ y) ρ m1) q1
    exact ih _ _ _ _ _ q2
theorem js_run {X : Cx} {es : List PySem.Expr} {ms : List EM} (h : SJs X es ms) : ∀ (acc : Str) ρ m o m', mJs ms acc ρ m = some (o, m') → ∀ B al σ H (Q : Str → Hp → Prop), Wd X.K B al m H → RepS X.K B al m.length σ ρ →
    (match o with
    | .ok y => ∀ B' al' H', Ex B B' → Agr m.length al al' → Wd X.K B' al' m' H' → Q y H'
    | .ex c fs => Flies X B al m.length σ c fs m') → tJs (es.map (wE X)) acc σ H Q := by
  induction h with
  | nil =>
    intro acc ρ m o m' q B al σ H Q wd rs k
    cases q
    exact k B al H (Ex.refl B) Agr.refl wd
  | @cons e me es ms he r ih =>
    intro acc ρ m o m' q B al σ H Q wd rs k
    show wE X e σ H _
    refine he.seq q wd rs (fun c fs z => by subst z; exact k) fun w m1 q1 l1 B1 al1 v1 H1 x1 g1 wd1 r1 => ?_
    obtain ⟨y, rfl, hl, q2⟩ := js_inv (m1 := m1) (k := fun y => mJs ms (acc ++ y) ρ m1) q1
    cases (show Rep X.K B1 v1 (.str y) from r1)
    refine ⟨y, rfl, lim_ok hl, ih _ _ _ _ _ q2 B1 al1 σ H1 Q wd1 (rs.mono x1 g1 l1) ?_⟩
    cases o with
    | ok z => exact fun B2 al2 H2 x2 g2 wd2 => k B2 al2 H2 (x1.trans x2) (g1.trans g2 l1) wd2
    | ex c fs => exact Flies.mono x1 g1 l1 k
theorem se_joined {X : Cx} {v1 v2 : PySem.Expr} {rest : List PySem.Expr} {ms : List EM} {pos : Pos} (h : SJs X (v1 :: v2 :: rest) ms) : SE X (.JoinedStr (v1 :: v2 :: rest) pos) (mJoined ms) := by
  refine ⟨fun ρ m o m' q => bnd_len q (js_len h _ ρ m) fun y m1 q1 => by cases q1; exact Nat.le_refl _, fun ρ m o m' q B al σ H Q wd rs hh pins s I => ?_⟩
  refine (pe_joined h.pj).run pins s σ H Q I ?_
  rcases bnd_cases q with ⟨y, m1, e1, q1⟩ | ⟨c, fs, e1, rfl⟩
  · cases q1
    exact js_run h _ _ _ _ _ e1 B al σ H _ wd rs fun B1 al1 H1 x1 g1 wd1 => hh B1 al1 _ H1 x1 g1 wd1 (.str _)
  · exact js_run h _ _ _ _ _ e1 B al σ H _ wd rs hh
/-! ### raise, by the short words -/
section
variable {X : Cx} {N : List Str} {sc : Scope} {k : Nat} {fn : Str → Bool} {rows : List XRow} {owns : List Str} {tys : List String}
theorem exAll_sub (h : exAll rows owns tys X.K = true) {c : Str} (m : rows.any (fun r => r.c == c) = true) : PySem.W.subIn X.K (.ref (He.ga X.K c)) (.type "BaseException") = some true := by
  obtain ⟨r, hr, h2⟩ := List.any_eq_true.mp m
  have hc : r.c = c := beq_iff_eq.mp h2
  subst hc
  exact (exAll_isC h hr).ex
theorem exAll_ty (h : exAll rows owns tys X.K = true) {c : Str} (m : rows.any (fun r => r.c == c) = true) : PySem.W.typeIn X.K (.ref (He.ga X.K c)) = some (.type "type") := by
  obtain ⟨r, hr, h2⟩ := List.any_eq_true.mp m
  have hc : r.c = c := beq_iff_eq.mp h2
  subst hc
  exact (exB_oex (XRow.parts (exAll_row h hr)).1).tyC
theorem Good.rexc (g : Good X N sc k fn) {c : Str} {j n : Nat} {fls : List Str} {gW : List W → List W → List W} {e : PySem.Expr} {es : List PySem.Expr} {ma : AM} {p pos : Pos} (h : exAll rows owns tys X.K = true) (m : rows.any (fun r => r.c == c) = true) (F : ExcK X.prog X.w X.K X.mg X.base c j n [] fls gW) (hj : Nat.ble (j + 1) k = true) (hg : sc.names.lookup c = some .globalImplicit) (hm : X.mg c = some (.ref (He.ga X.K c)))
    (ha : SA X (e :: es) ma) (h0 : noStar e = true := by rfl) (h1 : es.all noStar = true := by rfl) (hdb : (c == ("__debug__" : Str)) = false := by decide) : SR1 X (.Call (.Name c p) (e :: es) [] pos) (mExc c fls n 0 gW ma mNil) :=
  sr_exc F (exAll_sub h m) (Nat.le_refl j) (g.room.mono (Nat.le_of_ble_eq_true hj)) g.gd (g.gl hg) hm ha h0 h1 hdb
theorem Good.rexc0 (g : Good X N sc k fn) {c : Str} {p pos : Pos} (h : exAll rows owns tys X.K = true) (m : rows.any (fun r => r.c == c && r.flds.isEmpty) = true) (hg : sc.names.lookup c = some .globalImplicit) (hm : X.mg c = some (.ref (He.ga X.K c)))
    (hdb : (c == ("__debug__" : Str)) = false := by decide) : SR1 X (.Call (.Name c p) [] [] pos) (mExc0 c) := by
  obtain ⟨r, hr, h2⟩ := List.any_eq_true.mp m
  obtain ⟨h3, h4⟩ := Bool.and_eq_true_iff.mp h2
  have hc : r.c = c := beq_iff_eq.mp h3
  subst hc
  have ma : rows.any (fun q => q.c == r.c) = true := List.any_eq_true.mpr ⟨r, hr, by simp⟩
  obtain ⟨p1, p2, p3, p4, p5, p6⟩ := XRow.parts (exAll_row h hr)
  have hi := p3 (List.isEmpty_iff.mp h4)
  have hb := p1
  unfold exB at p1
  rw [Bool.and_eq_true, Bool.and_eq_true, Bool.and_eq_true, Bool.and_eq_true, Bool.and_eq_true, Bool.and_eq_true] at p1
  obtain ⟨nm, qn, N, bs, bm, sn, sub, ab, col, dd, k0, k1, k2, k3, k5, e1, e2⟩ := oexCls_ok p1.1.1.1.1.1.1
  exact sr_exc0 ⟨⟨_, _, _, _, nm, qn, N, bs, bm, sn, sub, ab, col, dd, k0, k1, k2, k3, k5, r.b.base, e1, e2, hi⟩, p1.1.1.1.2⟩ (exAll_sub h ma) (exAll_ty h ma) (g.gl hg) hm hdb
end
end Dm
set_option maxHeartbeats 2000000
/-! Dm, part 67: try, by the short words. -/
namespace Dm
open PySem PySem.Spec PyProof.Rows L2
open Evl (Ex)
variable [Lams]
section
variable {X : Cx} {N : List Str} {sc : Scope} {k : Nat} {fn : Str → Bool} {rows : List XRow} {owns : List Str} {tys : List String}
theorem Good.kind (g : Good X N sc k fn) {n : Str} (h : sc.names.lookup n = some .local) : X.env.kindOf n = some .local := by
  show X.env.scope.names.lookup n = _
  rw [g.sc]; exact h
theorem Good.hdA (g : Good X N sc k fn) (i : Nat) {x n : Str} {j : Nat} {f : FX} {st : Stmt} {sts : List Stmt} {p1 p2 : Pos} {hs : List ExceptHandler} {l : List Cl} (hx : sc.names.lookup x = some .globalImplicit) (hm : X.mg x = some (.ref (He.ga X.K x))) (hi : N[i]? = some n) (hk : sc.names.lookup n = some .local) (su : SuOk X (some i) j f (st :: sts)) (r : HdM X hs l)
    (hd : (x == ("__debug__" : Str)) = false := by decide) : HdM X (.ExceptHandler (some (.Name x p1)) (some n) (st :: sts) p2 :: hs) (⟨x, some i, j, f⟩ :: l) :=
  .cons ⟨g.gl hx, hd, .inl hm⟩ (fun m e => by cases e; exact ⟨i, rfl, by rw [g.N]; exact hi, g.kind hk⟩) (fun e => by cases e) su r
theorem Good.hdN (g : Good X N sc k fn) {x : Str} {j : Nat} {f : FX} {st : Stmt} {sts : List Stmt} {p1 p2 : Pos} {hs : List ExceptHandler} {l : List Cl} (hx : sc.names.lookup x = some .globalImplicit) (hm : X.mg x = some (.ref (He.ga X.K x))) (su : SuOk X none j f (st :: sts)) (r : HdM X hs l)
    (hd : (x == ("__debug__" : Str)) = false := by decide) : HdM X (.ExceptHandler (some (.Name x p1)) none (st :: sts) p2 :: hs) (⟨x, none, j, f⟩ :: l) :=
  .cons ⟨g.gl hx, hd, .inl hm⟩ (fun m e => by cases e) (fun _ => rfl) su r
theorem Good.suS (g : Good X N sc k fn) (j : Nat) {nm : Option Nat} {f : FX} {y : Str} {e : PySem.Expr} {p pos : Pos} (h : SEx X nm e f) (hj : N[j]? = some y) (hl : locB sc y = true) (hf : fn y = true ∨ sc.names.lookup y = some .local) (hs : ∀ env : Env, swapsWith e (some (.Name y p)) pos.line { env with scope := sc } = pure false) : SuOk X nm j f [.Assign [.Name y p] e pos] :=
  su_set g.nd (by rw [g.N]; exact hj) (by rw [g.sc]; exact loc_of hl) h (g.sw3 hs) (g.fnl hf)
theorem vB_parts {i : Nat} {n : Str} (h : vB N sc i n = true) : N[i]? = some n ∧ Vis sc n ∧ (n == ("__debug__" : Str)) = false ∧ (n == ("__classdict__" : Str)) = false := by
  unfold vB at h
  rw [Bool.and_eq_true, Bool.and_eq_true, Bool.and_eq_true, Bool.not_eq_true', Bool.not_eq_true'] at h
  exact ⟨of_decide_eq_true h.1.1.1, vis_of h.1.1.2, h.1.2, h.2⟩
theorem Good.xat (g : Good X N sc k fn) (i : Nat) {n f : Str} {p pos : Pos} (TX : exAll rows owns tys X.K = true) (h : vB N sc i n = true) (hb : attributeBase (.Name n p) f X.env (eval (.Name n p) X.env) = eval (.Name n p) X.env := by rfl) : SEx X (some i) (.Attribute (.Name n p) f pos) (xAt rows f) :=
  let ⟨h1, h2, h3, h4⟩ := vB_parts h
  sex_at TX (by rw [g.N]; exact h1) (by rw [g.sc]; exact h2) h3 h4 hb
theorem Good.xisC (g : Good X N sc k fn) (i : Nat) {n c : Str} {p p1 p2 pos : Pos} (TX : exAll rows owns tys X.K = true) (h : vB N sc i n = true) (hg : sc.names.lookup ("isinstance" : Str) = some .globalImplicit) (hm : X.mg "isinstance" = none) (hc : sc.names.lookup c = some .globalImplicit) (hmc : X.mg c = some (.ref (He.ga X.K c))) (hd : (c == ("__debug__" : Str)) = false := by decide) :
    SEx X (some i) (.Call (.Name "isinstance" p1) [.Name n p, .Name c p2] [] pos) (xIs rows owns tys (.cl c)) :=
  let ⟨h1, h2, h3, h4⟩ := vB_parts h
  sex_is TX (g.gl hg) hm (by rw [g.N]; exact h1) (by rw [g.sc]; exact h2) (fun a pn => pe_glob (X := X.suite a pn) (v := .ref (He.ga X.K c)) (g.gl hc) hmc rfl hd) (fun u w r e => by cases e; exact r) rfl h3 h4
theorem Good.xisT (g : Good X N sc k fn) (i : Nat) {n c : Str} {T : String} {p p1 p2 pos : Pos} (TX : exAll rows owns tys X.K = true) (h : vB N sc i n = true) (hg : sc.names.lookup ("isinstance" : Str) = some .globalImplicit) (hm : X.mg "isinstance" = none) (hc : sc.names.lookup c = some .globalImplicit) (hmc : X.mg c = none) (hv : bootBuiltins c = some (.type T)) (hn : c ≠ "__name__" := by decide) (hd : (c == ("__debug__" : Str)) = false := by decide) :
    SEx X (some i) (.Call (.Name "isinstance" p1) [.Name n p, .Name c p2] [] pos) (xIs rows owns tys (.ty T)) :=
  let ⟨h1, h2, h3, h4⟩ := vB_parts h
  sex_is TX (g.gl hg) hm (by rw [g.N]; exact h1) (by rw [g.sc]; exact h2) (fun a pn => pe_bltn (X := X.suite a pn) (v := .ty T) (g.gl hc) hmc hv rfl hn hd) (fun u w r e => by cases e; exact r) rfl h3 h4
theorem Good.xrep (g : Good X N sc k fn) {nm : Option Nat} {e : PySem.Expr} {f : FX} {pos pos2 : Pos} (hg : sc.names.lookup ("repr" : Str) = some .globalImplicit) (hm : X.mg "repr" = none) (h : SEx X nm e f) (h0 : noStar e = true := by rfl) : SEx X nm (.Call (.Name "repr" pos) [e] [] pos2) (xRepr f) := sex_repr g.rm (g.gl hg) hm h h0
theorem ss_tryG {hcl : List Str} {bd : List Stmt} {h1 : ExceptHandler} {hs : List ExceptHandler} {cls : List Cl} {mb : SM} {pos : Pos} (gF : GoodF X N sc k) (EM : exmB rows hcl X.K = true) (hm : HdM X (h1 :: hs) cls) (hin : (cls.map (·.c)).all hcl.contains = true)
    (hb : ∀ pn xe, Good (X.tr pn xe) N sc k (fun _ => true) → SSs (X.tr pn xe) bd mb) : SS X (.Try bd (h1 :: hs) [] [] pos) (sTry rows cls mb) :=
  ss_try gF EM (fun k hk => by
    have := List.all_eq_true.mp hin k.c (List.mem_map.mpr ⟨k, hk, rfl⟩)
    simpa using this) hm hb
end
end Dm
namespace Lw
open PySem PySem.Spec PyProof.Rows L2
def top (i : Nat) : Stmt := PySem.Challenge.pw_surepins_k90_ends_in_texts.main.body.getD i (.Pass ⟨0, 0, 0, 0⟩)
def sub (i j : Nat) : Stmt := match top i with
  | .ClassDef _ _ _ b _ _ _ _ _ _ _ => b.getD j (.Pass ⟨0, 0, 0, 0⟩)
  | _ => .Pass ⟨0, 0, 0, 0⟩
abbrev R : PySem.W.OpenRow := PySem.W.OpenLaw.row PySem.Challenge.rw_surepins_k90_ends_in_texts
def loose : List PySem.Str := ([("PinsError" : PySem.Str), ("InvalidText" : PySem.Str), ("LETTERS" : PySem.Str), ("FIGURES" : PySem.Str), ("MOST_SIGNS" : PySem.Str), ("BEGIN" : PySem.Str), ("END" : PySem.Str), ("is_name" : PySem.Str), ("is_end" : PySem.Str), ("want_string" : PySem.Str), ("end_text" : PySem.Str), ("end_told" : PySem.Str), ("read_end" : PySem.Str), ("_law_pot" : PySem.Str), ("_law_draw" : PySem.Str), ("_law_pick" : PySem.Str), ("_law_word" : PySem.Str), ("_law_is_name" : PySem.Str), ("_law_is_end" : PySem.Str), ("_law_read" : PySem.Str), ("_law_heard" : PySem.Str), ("_law_texts" : PySem.Str), ("_law_right" : PySem.Str)] : List PySem.Str)
def fn : List He.DefD := [⟨("is_name", none), "is_name", "is_name", defArgs (top 9), defBody (top 9), defScope (top 9), [], []⟩,
  ⟨("is_end", none), "is_end", "is_end", defArgs (top 10), defBody (top 10), defScope (top 10), [], []⟩,
  ⟨("want_string", none), "want_string", "want_string", defArgs (top 12), defBody (top 12), defScope (top 12), [], []⟩,
  ⟨("end_text", none), "end_text", "end_text", defArgs (top 13), defBody (top 13), defScope (top 13), [], []⟩,
  ⟨("end_told", none), "end_told", "end_told", defArgs (top 14), defBody (top 14), defScope (top 14), [], []⟩,
  ⟨("read_end", none), "read_end", "read_end", defArgs (top 15), defBody (top 15), defScope (top 15), [], []⟩,
  ⟨("_law_pot", none), "_law_pot", "_law_pot", defArgs (top 17), defBody (top 17), defScope (top 17), [], []⟩,
  ⟨("_law_draw", none), "_law_draw", "_law_draw", defArgs (top 18), defBody (top 18), defScope (top 18), [], []⟩,
  ⟨("_law_pick", none), "_law_pick", "_law_pick", defArgs (top 19), defBody (top 19), defScope (top 19), [], []⟩,
  ⟨("_law_word", none), "_law_word", "_law_word", defArgs (top 20), defBody (top 20), defScope (top 20), [], []⟩,
  ⟨("_law_is_name", none), "_law_is_name", "_law_is_name", defArgs (top 21), defBody (top 21), defScope (top 21), [], []⟩,
  ⟨("_law_is_end", none), "_law_is_end", "_law_is_end", defArgs (top 22), defBody (top 22), defScope (top 22), [], []⟩,
  ⟨("_law_read", none), "_law_read", "_law_read", defArgs (top 23), defBody (top 23), defScope (top 23), [], []⟩,
  ⟨("_law_heard", none), "_law_heard", "_law_heard", defArgs (top 24), defBody (top 24), defScope (top 24), [], []⟩,
  ⟨("_law_texts", none), "_law_texts", "_law_texts", defArgs (top 25), defBody (top 25), defScope (top 25), [], []⟩,
  ⟨("_law_right", none), "_law_right", "_law_right", defArgs (top 26), defBody (top 26), defScope (top 26), [], []⟩,
  ⟨("law", none), "law", "law", defArgs (top 27), defBody (top 27), defScope (top 27), [], []⟩,
  ⟨("InvalidText", some "__init__"), "__init__", "InvalidText.__init__", defArgs (sub 2 0), defBody (sub 2 0), defScope (sub 2 0), [], []⟩]
def fa : List He.Fa := [.glo "is_name", .glo "is_end", .glo "want_string", .glo "end_text", .glo "end_told", .glo "read_end", .glo "_law_pot", .glo "_law_draw", .glo "_law_pick", .glo "_law_word", .glo "_law_is_name", .glo "_law_is_end", .glo "_law_read", .glo "_law_heard", .glo "_law_texts", .glo "_law_right", .glo "law", .glo "PinsError", .glo "InvalidText", .str "LETTERS" "abcdefghijklmnopqrstuvwxyz", .str "FIGURES" "0123456789", .int "MOST_SIGNS" (6), .str "BEGIN" "begin", .str "END" "end", .free "ValueError", .free "abs", .free "all", .free "divmod", .free "int", .free "isinstance", .free "len", .free "max", .free "min", .free "range", .free "str", .free "tuple"]
def rows : List Dm.XRow := [⟨"InvalidText", .ve, ["line"], ["InvalidText", "PinsError"]⟩]
def owns : List Str := []
def tys : List String := []
def ocl : List Str := []
def pgs : List Dm.PgD := []
def hcls : List Str := ["InvalidText"]
def exq (K : PySem.W.Frag) : Bool := Dm.exAll rows owns tys K && (Dm.ownB ocl K && Dm.exmB rows hcls K)
abbrev PgAll (K : PySem.W.Frag) : Prop := ∀ (i : Nat) (d : Dm.PgD), pgs[i]? = some d → PropOf K (He.ga K d.c) d.f (He.ma K (He.ga K d.c) d.f) (Dm.pgA K d.c d.f) ∧ ∃ fd, FunD K d.f d.qual d.params d.body d.scope [] [] (Dm.pgA K d.c d.f) fd
def lamAt : Nat → Dm.LamC
  | 0 => Dm.lamC "_law_right.<locals>.<lambda>" ["_law_line"] (defBody (top 26)) [1, 2] [0, 0, 1]
  | 1 => Dm.lamC "_law_right.<locals>.<lambda>" ["_law_line"] (defBody (top 26)) [1, 3] [0, 0, 1]
  | 2 => Dm.lamC "_law_right.<locals>.<lambda>" ["_law_thing"] (defBody (top 26)) [2, 0] [0, 0, 1]
  | 3 => Dm.lamC "_law_right.<locals>.<lambda>" ["_law_thing"] (defBody (top 26)) [4, 1] [0, 0, 1]
  | 4 => Dm.lamC "_law_right.<locals>.<lambda>" ["_law_thing"] (defBody (top 26)) [4, 2] [0, 0, 1]
  | _ => Dm.lamC "" [] [] [] []
def tabs : List (PySem.Str × PySem.Str) := [("_law_right", "_law_right.<locals>.<lambda>")]
instance lamsI : Dm.Lams := ⟨lamAt, tabs⟩
abbrev hk : PySem.W.Hook := Dm.hookZ 4 fa fn exq pgs tabs
def ob (s : PySem.W.SharedT) : Dm.AlY := Dm.obsZ 4 fa fn exq pgs tabs (HandSHeadRun.getT s)
theorem ob_eq (s : PySem.W.SharedT) : ob s = hk.obs s.abs := Dm.obsZ_eq (HandSHeadRun.getT_eq s)
theorem run (w : World) : HandSHeadRun.RunEq R (PySem.W.view R.prog [27]) hk ob 40000 loose w := by
  intro os
  kernel_rfl
end Lw
set_option maxHeartbeats 2000000
namespace Lw
open PySem PySem.Spec PyProof.Rows L2 Dm
abbrev sc_InvalidText_init : Scope := defScope (sub 2 0)
theorem S_InvalidText_init : FnScope ["self", "line"] ["self", "line"] sc_InvalidText_init := ⟨rfl, rfl, rfl, by decide +kernel, rfl, by decide +kernel, by decide +kernel⟩
theorem x_InvalidText {P : Program} {w : World} {K : PySem.W.Frag} {mg : Str → Option Value} {bs : Heap} (T : Tx fa fn K mg bs) (TX : exAll rows owns tys K = true) (TO : ownB ocl K = true) (TP : PgAll K) (TZ : Tz K mg bs) (TE : exmB rows hcls K = true) : ExcK P w K mg bs "InvalidText" 1 1 [] ["line"] (fun ws _ => ws) := by
  obtain ⟨fd, F⟩ := T.says.def_ 17 rfl
  exact exck_of TX (k := 1) (n := 1) (show rows.find? (fun r => r.c == ("InvalidText" : Str)) = some ⟨"InvalidText", .ve, ["line"], ["InvalidText", "PinsError"]⟩ by kernel_rfl) (by decide) (fun O hf => init1_fnG F S_InvalidText_init O (hf "line" (by decide)) (vis_of (by decide +kernel)) (vis_of (by decide +kernel))) (bdg_pos (ps := ["self", "line"]) F fun _ _ _ _ _ _ us hl => match us, hl with | [_, _], _ => rfl) rfl (by decide)
abbrev sc__law_draw : Scope := defScope (top 18)
def N__law_draw : List Str := ["_law_pot_here", "_law_size", "_law_digit"]
theorem S__law_draw : FnScope N__law_draw ["_law_pot_here", "_law_size"] sc__law_draw := ⟨rfl, rfl, rfl, by decide +kernel, rfl, by decide +kernel, by decide +kernel⟩

def m__law_draw : SM := sSeq (sIf (mTest (mOp fGt (mOp fIx (mVar 0) (mC (.int 0))) (mC (.int 0)))) (sSeq (sAsg (mCa fDivmod (mCons (mOp fIx (mVar 0) (mC (.int 0))) (mCons (mVar 1) (mNil)))) (gTupM 2 (gConss (gIdx (mVar 0) (mC (.int 0))) (gConss (gSet 2) (gNils)))))
  (sRet (mVar 2))) (sNil))
  (sSeq (sAsg (mOp fMod (mCa fInt (mCons (mOp fAdd (mOp fMul (mOp fIx (mVar 0) (mC (.int 1))) (mC (.int 48271))) (mC (.int 12253))) (mNil))) (mC (.int 2147483587))) (gIdx (mVar 0) (mC (.int 1))))
  (sRet (mOp fMod (mCa fInt (mCons (mOp fDiv (mOp fMod (mCa fInt (mCons (mOp fMul (mOp fIx (mVar 0) (mC (.int 1))) (mOp fIx (mVar 0) (mC (.int 1)))) (mNil))) (mC (.int 2147483549))) (mC (.int 23))) (mNil))) (mVar 1))))
def F__law_draw : FM := mFn N__law_draw m__law_draw
theorem b__law_draw {X : Cx} (T : Tx fa fn X.K X.mg X.base) (TX : exAll rows owns tys X.K = true) (TO : ownB ocl X.K = true) (TP : PgAll X.K) (TZ : Tz X.K X.mg X.base) (TE : exmB rows hcls X.K = true) (gF : GoodF X N__law_draw sc__law_draw 0) : SSs X (defBody (top 18)) m__law_draw := by
  have g := gF.toGood
  exact (sss_cons (ss_if (st_cmp od_gt ops_dd (se_ix (od_ix g.rm) ops_dd (g.v 0 (by kernel_rfl)) se_int (fun _ _ => rfl)) se_int (nomark _)) (sss_cons (g.asg (se_callB cd_divmod cas_dd (g.gl (by kernel_rfl)) (T.free 27 rfl) bt_divmod (sa_cons (se_ix (od_ix g.rm) ops_dd (g.v 0 (by kernel_rfl)) se_int (fun _ _ => rfl)) (sa_cons (g.v 1 (by kernel_rfl)) sa_nil))) (sg_tup g.calm (sgs_cons (sg_ix g.rm (g.v 0 (by kernel_rfl)) se_int) (sgs_cons (g.tg 2 (by kernel_rfl) (by kernel_rfl) (.inl rfl)) sgs_nil))) (fun _ => rfl) (fun _ => rfl))
  (sss_one (ss_ret (g.v 2 (by kernel_rfl))))) sss_nil)
  (sss_cons (g.asg (se_op od_mod ops_dd (se_callTy cd_int cas_dd (g.gl (by kernel_rfl)) (T.free 28 rfl) bt_int (sa_cons (se_op od_add ops_dd (se_op od_mul ops_dd (se_ix (od_ix g.rm) ops_dd (g.v 0 (by kernel_rfl)) se_int (fun _ _ => rfl)) se_int) se_int) sa_nil)) se_int) (sg_ix g.rm (g.v 0 (by kernel_rfl)) se_int) (fun _ => rfl) (fun _ => rfl))
  (sss_one (ss_ret (se_op od_mod ops_dd (se_callTy cd_int cas_dd (g.gl (by kernel_rfl)) (T.free 28 rfl) bt_int (sa_cons (se_op od_div ops_dd (se_op od_mod ops_dd (se_callTy cd_int cas_dd (g.gl (by kernel_rfl)) (T.free 28 rfl) bt_int (sa_cons (se_op od_mul ops_dd (se_ix (od_ix g.rm) ops_dd (g.v 0 (by kernel_rfl)) se_int (fun _ _ => rfl)) (se_ix (od_ix g.rm) ops_dd (g.v 0 (by kernel_rfl)) se_int (fun _ _ => rfl))) sa_nil)) se_int) se_int) sa_nil)) (g.v 1 (by kernel_rfl)))))))
section
variable {P : Program} {w : World} {K : PySem.W.Frag} {mg : Str → Option Value} {bs : Heap}
theorem kok__law_draw (T : Tx fa fn K mg bs) (TX : exAll rows owns tys K = true) (TO : ownB ocl K = true) (TP : PgAll K) (TZ : Tz K mg bs) (TE : exmB rows hcls K = true) {n : Nat} {ks : List Str} {gW : List W → List W → List W} (hB : ∀ fd, FunD K "_law_draw" "_law_draw" (defArgs (top 18)) (defBody (top 18)) sc__law_draw [] [] (He.ga K "_law_draw") fd → Bdg K fd ["_law_pot_here", "_law_size"] n ks gW) : DefKw P w K mg bs "_law_draw" 1 ["_law_pot_here", "_law_size"] F__law_draw n ks gW :=
  defOk_of (T.says.def_ 7 rfl) S__law_draw T.sm ⟨rfl, by decide, by decide⟩ (fun X e1 e2 e3 e4 e5 g => by subst e1 e2 e3 e4 e5; exact b__law_draw T TX TO TP TZ TE g ) hB
theorem ok__law_draw (T : Tx fa fn K mg bs) (TX : exAll rows owns tys K = true) (TO : ownB ocl K = true) (TP : PgAll K) (TZ : Tz K mg bs) (TE : exmB rows hcls K = true) : DefOk P w K mg bs "_law_draw" 1 ["_law_pot_here", "_law_size"] F__law_draw :=
  (kok__law_draw T TX TO TP TZ TE  fun fd F => bdg_pos F fun _ _ _ _ _ _ us hl => match us, hl with | [_, _], _ => rfl).pos
end
abbrev sc__law_pick : Scope := defScope (top 19)
def N__law_pick : List Str := ["_law_pot_here", "_law_some"]
theorem S__law_pick : FnScope N__law_pick ["_law_pot_here", "_law_some"] sc__law_pick := ⟨rfl, rfl, rfl, by decide +kernel, rfl, by decide +kernel, by decide +kernel⟩

def m__law_pick : SM := sRet (mOp fIx (mVar 1) (mDef 2 0 (fun ws _ => ws) F__law_draw (mCons (mVar 0) (mCons (mCa fLen (mCons (mVar 1) (mNil))) (mNil))) mNil))
def F__law_pick : FM := mFn N__law_pick m__law_pick
theorem b__law_pick {X : Cx} (T : Tx fa fn X.K X.mg X.base) (TX : exAll rows owns tys X.K = true) (TO : ownB ocl X.K = true) (TP : PgAll X.K) (TZ : Tz X.K X.mg X.base) (TE : exmB rows hcls X.K = true) (gF : GoodF X N__law_pick sc__law_pick 1) (d__law_draw : DefOk X.prog X.w X.K X.mg X.base "_law_draw" 1 ["_law_pot_here", "_law_size"] F__law_draw) : SSs X (defBody (top 19)) m__law_pick := by
  have g := gF.toGood
  exact (sss_one (ss_ret (se_ix (od_ix g.rm) ops_dd (g.v 1 (by kernel_rfl)) (g.callP d__law_draw rfl (by kernel_rfl) (T.glo 7 rfl) (sa_cons (g.v 0 (by kernel_rfl)) (sa_cons (se_callB cd_len cas_dd (g.gl (by kernel_rfl)) (T.free 30 rfl) bt_len (sa_cons (g.v 1 (by kernel_rfl)) sa_nil)) sa_nil))) (fun _ _ => rfl))))
section
variable {P : Program} {w : World} {K : PySem.W.Frag} {mg : Str → Option Value} {bs : Heap}
theorem kok__law_pick (T : Tx fa fn K mg bs) (TX : exAll rows owns tys K = true) (TO : ownB ocl K = true) (TP : PgAll K) (TZ : Tz K mg bs) (TE : exmB rows hcls K = true) (d__law_draw : DefOk P w K mg bs "_law_draw" 1 ["_law_pot_here", "_law_size"] F__law_draw) {n : Nat} {ks : List Str} {gW : List W → List W → List W} (hB : ∀ fd, FunD K "_law_pick" "_law_pick" (defArgs (top 19)) (defBody (top 19)) sc__law_pick [] [] (He.ga K "_law_pick") fd → Bdg K fd ["_law_pot_here", "_law_some"] n ks gW) : DefKw P w K mg bs "_law_pick" 2 ["_law_pot_here", "_law_some"] F__law_pick n ks gW :=
  defOk_of (T.says.def_ 8 rfl) S__law_pick T.sm ⟨rfl, by decide, by decide⟩ (fun X e1 e2 e3 e4 e5 g => by subst e1 e2 e3 e4 e5; exact b__law_pick T TX TO TP TZ TE g d__law_draw) hB
theorem ok__law_pick (T : Tx fa fn K mg bs) (TX : exAll rows owns tys K = true) (TO : ownB ocl K = true) (TP : PgAll K) (TZ : Tz K mg bs) (TE : exmB rows hcls K = true) (d__law_draw : DefOk P w K mg bs "_law_draw" 1 ["_law_pot_here", "_law_size"] F__law_draw) : DefOk P w K mg bs "_law_pick" 2 ["_law_pot_here", "_law_some"] F__law_pick :=
  (kok__law_pick T TX TO TP TZ TE d__law_draw fun fd F => bdg_pos F fun _ _ _ _ _ _ us hl => match us, hl with | [_, _], _ => rfl).pos
end
abbrev sc__law_word : Scope := defScope (top 20)
def N__law_word : List Str := ["_law_pot_here", "_law_first", "_law_more", "_law_tail", "_law_turn"]
theorem S__law_word : FnScope N__law_word ["_law_pot_here"] sc__law_word := ⟨rfl, rfl, rfl, by decide +kernel, rfl, by decide +kernel, by decide +kernel⟩

def m__law_word : SM := sSeq (sParT (mCons (mC (.str "abcdefghijklmnopqrstuvwxyz")) (mCons (mC (.str "abcxyz0189")) (mNil))) (gConss (gSet 1) (gConss (gSet 2) (gNils))) 2)
  (sSeq (sSet 3 (mUn (fJoin "") (mLc (iRange1 (mDef 2 0 (fun ws _ => ws) F__law_draw (mCons (mVar 0) (mCons (mC (.int 7)) (mNil))) mNil)) (.one 4) (tYesM) (mDef 2 0 (fun ws _ => ws) F__law_pick (mCons (mVar 0) (mCons (mVar 2) (mNil))) mNil) [4])))
  (sRet (mOp fAdd (mDef 2 0 (fun ws _ => ws) F__law_pick (mCons (mVar 0) (mCons (mVar 1) (mNil))) mNil) (mVar 3))))
def F__law_word : FM := mFn N__law_word m__law_word
theorem b__law_word {X : Cx} (T : Tx fa fn X.K X.mg X.base) (TX : exAll rows owns tys X.K = true) (TO : ownB ocl X.K = true) (TP : PgAll X.K) (TZ : Tz X.K X.mg X.base) (TE : exmB rows hcls X.K = true) (gF : GoodF X N__law_word sc__law_word 2) (d__law_draw : DefOk X.prog X.w X.K X.mg X.base "_law_draw" 1 ["_law_pot_here", "_law_size"] F__law_draw) (d__law_pick : DefOk X.prog X.w X.K X.mg X.base "_law_pick" 2 ["_law_pot_here", "_law_some"] F__law_pick) : SSs X (defBody (top 20)) m__law_word := by
  have g := gF.toGood
  exact (sss_cons (g.parT (sa_cons se_str (sa_cons se_str sa_nil)) (sgs_cons (g.tg 1 (by kernel_rfl) (by kernel_rfl) (.inl rfl)) (sgs_cons (g.tg 2 (by kernel_rfl) (by kernel_rfl) (.inl rfl)) sgs_nil)) (fun _ => rfl) (fun _ => by kernel_rfl))
  (sss_cons (g.set 3 (se_join (g.lc [("_law_turn", 4)] (.one 4) (si_range1 (g.gl (by kernel_rfl)) (T.free 33 rfl) (g.callP d__law_draw rfl (by kernel_rfl) (T.glo 7 rfl) (sa_cons (g.v 0 (by kernel_rfl)) (sa_cons se_int sa_nil)))) (blkOk_by (by decide +kernel)) (fun _ _ _ _ _ g1 => ⟨(g1.ct1 4 (by kernel_rfl) (by kernel_rfl) (by first | exact .inl rfl | exact .inr (by kernel_rfl))), sts_nil, (g1.callP d__law_pick rfl (by kernel_rfl) (T.glo 8 rfl) (sa_cons (g1.v 0 (by kernel_rfl)) (sa_cons (g1.v 2 (by kernel_rfl)) sa_nil)))⟩) rfl (fun _ _ => rfl))) (by kernel_rfl) (by kernel_rfl) (.inl rfl) (fun _ => rfl))
  (sss_one (ss_ret (se_op od_add ops_dd (g.callP d__law_pick rfl (by kernel_rfl) (T.glo 8 rfl) (sa_cons (g.v 0 (by kernel_rfl)) (sa_cons (g.v 1 (by kernel_rfl)) sa_nil))) (g.v 3 (by kernel_rfl)))))))
section
variable {P : Program} {w : World} {K : PySem.W.Frag} {mg : Str → Option Value} {bs : Heap}
theorem kok__law_word (T : Tx fa fn K mg bs) (TX : exAll rows owns tys K = true) (TO : ownB ocl K = true) (TP : PgAll K) (TZ : Tz K mg bs) (TE : exmB rows hcls K = true) (d__law_draw : DefOk P w K mg bs "_law_draw" 1 ["_law_pot_here", "_law_size"] F__law_draw) (d__law_pick : DefOk P w K mg bs "_law_pick" 2 ["_law_pot_here", "_law_some"] F__law_pick) {n : Nat} {ks : List Str} {gW : List W → List W → List W} (hB : ∀ fd, FunD K "_law_word" "_law_word" (defArgs (top 20)) (defBody (top 20)) sc__law_word [] [] (He.ga K "_law_word") fd → Bdg K fd ["_law_pot_here"] n ks gW) : DefKw P w K mg bs "_law_word" 3 ["_law_pot_here"] F__law_word n ks gW :=
  defOk_of (T.says.def_ 9 rfl) S__law_word T.sm ⟨rfl, by decide, by decide⟩ (fun X e1 e2 e3 e4 e5 g => by subst e1 e2 e3 e4 e5; exact b__law_word T TX TO TP TZ TE g d__law_draw d__law_pick) hB
theorem ok__law_word (T : Tx fa fn K mg bs) (TX : exAll rows owns tys K = true) (TO : ownB ocl K = true) (TP : PgAll K) (TZ : Tz K mg bs) (TE : exmB rows hcls K = true) (d__law_draw : DefOk P w K mg bs "_law_draw" 1 ["_law_pot_here", "_law_size"] F__law_draw) (d__law_pick : DefOk P w K mg bs "_law_pick" 2 ["_law_pot_here", "_law_some"] F__law_pick) : DefOk P w K mg bs "_law_word" 3 ["_law_pot_here"] F__law_word :=
  (kok__law_word T TX TO TP TZ TE d__law_draw d__law_pick fun fd F => bdg_pos F fun _ _ _ _ _ _ us hl => match us, hl with | [_], _ => rfl).pos
end
abbrev sc__law_texts : Scope := defScope (top 25)
def N__law_texts : List Str := ["_law_pot_here", "_law_word_here", "_law_side", "_law_line", "_law_at", "_law_some"]
theorem S__law_texts : FnScope N__law_texts ["_law_pot_here", "_law_word_here", "_law_side"] sc__law_texts := ⟨rfl, rfl, rfl, by decide +kernel, rfl, by decide +kernel, by decide +kernel⟩

def m__law_texts : SM := sSeq (sPar 3 4 (mCons (mOp fAdd (mOp fAdd (mVar 1) (mC (.str "."))) (mVar 2)) (mCons (mDef 2 0 (fun ws _ => ws) F__law_draw (mCons (mVar 0) (mCons (mC (.int 9)) (mNil))) mNil) (mNil))))
  (sSeq (sSet 5 (mLst (mCons (mVar 3) (mCons (mVar 1) (mCons (mVar 2) (mCons (mOp fAdd (mC (.str ".")) (mVar 2)) (mCons (mOp fAdd (mVar 1) (mC (.str "."))) (mCons (mOp fAdd (mOp fAdd (mVar 1) (mC (.str " ."))) (mVar 2)) (mCons (mOp fAdd (mOp fAdd (mVar 1) (mC (.str ". "))) (mVar 2)) (mCons (mOp fAdd (mVar 3) (mC (.str " "))) (mCons (mOp fAdd (mC (.str " ")) (mVar 3)) (mNil))))))))))))
  (sSeq (sSet 5 (mOp fAdd (mVar 5) (mLst (mCons (mOp fAdd (mVar 3) (mC (.str "\n"))) (mCons (mOp fAdd (mVar 3) (mVar 3)) (mCons (mOp fAdd (mOp fAdd (mVar 3) (mC (.str "."))) (mVar 2)) (mCons (mOp fAdd (mSl (mVar 3) oNone (oSome (mVar 4))) (mSl (mVar 3) (oSome (mOp fAdd (mVar 4) (mC (.int 1)))) oNone)) (mCons (mOp fAdd (mOp fAdd (mSl (mVar 3) oNone (oSome (mVar 4))) (mC (.str "."))) (mSl (mVar 3) (oSome (mVar 4)) oNone)) (mNil)))))))))
  (sSeq (sSet 5 (mOp fAdd (mVar 5) (mLst (mCons (mOp fAdd (mOp fAdd (mOp fAdd (mVar 1) (mC (.str "."))) (mVar 2)) (mC (.str "s"))) (mCons (mOp fAdd (mOp fAdd (mVar 1) (mC (.str "9."))) (mVar 2)) (mCons (mOp fAdd (mC (.str "9")) (mVar 3)) (mCons (mOp fAdd (mVar 1) (mC (.str ".."))) (mCons (mC (.str "")) (mCons (mC (.str ".")) (mCons (mOp fAdd (mVar 1) (mC (.str ".Begin"))) (mNil)))))))))))
  (sSeq (sSet 5 (mOp fAdd (mVar 5) (mLst (mCons (mOp fAdd (mC (.str "A.")) (mVar 2)) (mCons (mOp fAdd (mVar 1) (mC (.str ",end"))) (mCons (mOp fAdd (mVar 1) (mC (.str ".end"))) (mCons (mOp fAdd (mVar 1) (mC (.str ".begin"))) (mCons (mOp fAdd (mOp fAdd (mVar 2) (mC (.str "."))) (mVar 1)) (mNil)))))))))
  (sRet (mOp fAdd (mVar 5) (mLst (mCons (mC (.str "end.end")) (mCons (mC (.str "begin.begin")) (mNil))))))))))
def F__law_texts : FM := mFn N__law_texts m__law_texts
theorem b__law_texts {X : Cx} (T : Tx fa fn X.K X.mg X.base) (TX : exAll rows owns tys X.K = true) (TO : ownB ocl X.K = true) (TP : PgAll X.K) (TZ : Tz X.K X.mg X.base) (TE : exmB rows hcls X.K = true) (gF : GoodF X N__law_texts sc__law_texts 1) (d__law_draw : DefOk X.prog X.w X.K X.mg X.base "_law_draw" 1 ["_law_pot_here", "_law_size"] F__law_draw) : SSs X (defBody (top 25)) m__law_texts := by
  have g := gF.toGood
  exact (sss_cons (g.par 3 4 (sa_cons (se_op od_add ops_dd (se_op od_add ops_dd (g.v 1 (by kernel_rfl)) se_str) (g.v 2 (by kernel_rfl))) (sa_cons (g.callP d__law_draw rfl (by kernel_rfl) (T.glo 7 rfl) (sa_cons (g.v 0 (by kernel_rfl)) (sa_cons se_int sa_nil))) sa_nil)) (by kernel_rfl) (by kernel_rfl) (by decide) (by kernel_rfl) (by kernel_rfl) (fun _ => by kernel_rfl) (fun _ => rfl))
  (sss_cons (g.set 5 (se_lst (sa_cons (g.v 3 (by kernel_rfl)) (sa_cons (g.v 1 (by kernel_rfl)) (sa_cons (g.v 2 (by kernel_rfl)) (sa_cons (se_op od_add ops_dd se_str (g.v 2 (by kernel_rfl))) (sa_cons (se_op od_add ops_dd (g.v 1 (by kernel_rfl)) se_str) (sa_cons (se_op od_add ops_dd (se_op od_add ops_dd (g.v 1 (by kernel_rfl)) se_str) (g.v 2 (by kernel_rfl))) (sa_cons (se_op od_add ops_dd (se_op od_add ops_dd (g.v 1 (by kernel_rfl)) se_str) (g.v 2 (by kernel_rfl))) (sa_cons (se_op od_add ops_dd (g.v 3 (by kernel_rfl)) se_str) (sa_cons (se_op od_add ops_dd se_str (g.v 3 (by kernel_rfl))) sa_nil)))))))))) (by kernel_rfl) (by kernel_rfl) (.inl rfl) (fun _ => rfl))
  (sss_cons (g.set 5 (se_op od_add ops_dd (g.v 5 (by kernel_rfl)) (se_lst (sa_cons (se_op od_add ops_dd (g.v 3 (by kernel_rfl)) se_str) (sa_cons (se_op od_add ops_dd (g.v 3 (by kernel_rfl)) (g.v 3 (by kernel_rfl))) (sa_cons (se_op od_add ops_dd (se_op od_add ops_dd (g.v 3 (by kernel_rfl)) se_str) (g.v 2 (by kernel_rfl))) (sa_cons (se_op od_add ops_dd (se_sl (g.v 3 (by kernel_rfl)) so_none (so_some (g.v 4 (by kernel_rfl)))) (se_sl (g.v 3 (by kernel_rfl)) (so_some (se_op od_add ops_dd (g.v 4 (by kernel_rfl)) se_int)) so_none)) (sa_cons (se_op od_add ops_dd (se_op od_add ops_dd (se_sl (g.v 3 (by kernel_rfl)) so_none (so_some (g.v 4 (by kernel_rfl)))) se_str) (se_sl (g.v 3 (by kernel_rfl)) (so_some (g.v 4 (by kernel_rfl))) so_none)) sa_nil))))))) (by kernel_rfl) (by kernel_rfl) (.inl rfl) (fun _ => rfl))
  (sss_cons (g.set 5 (se_op od_add ops_dd (g.v 5 (by kernel_rfl)) (se_lst (sa_cons (se_op od_add ops_dd (se_op od_add ops_dd (se_op od_add ops_dd (g.v 1 (by kernel_rfl)) se_str) (g.v 2 (by kernel_rfl))) se_str) (sa_cons (se_op od_add ops_dd (se_op od_add ops_dd (g.v 1 (by kernel_rfl)) se_str) (g.v 2 (by kernel_rfl))) (sa_cons (se_op od_add ops_dd se_str (g.v 3 (by kernel_rfl))) (sa_cons (se_op od_add ops_dd (g.v 1 (by kernel_rfl)) se_str) (sa_cons se_str (sa_cons se_str (sa_cons (se_op od_add ops_dd (g.v 1 (by kernel_rfl)) se_str) sa_nil))))))))) (by kernel_rfl) (by kernel_rfl) (.inl rfl) (fun _ => rfl))
  (sss_cons (g.set 5 (se_op od_add ops_dd (g.v 5 (by kernel_rfl)) (se_lst (sa_cons (se_op od_add ops_dd se_str (g.v 2 (by kernel_rfl))) (sa_cons (se_op od_add ops_dd (g.v 1 (by kernel_rfl)) se_str) (sa_cons (se_op od_add ops_dd (g.v 1 (by kernel_rfl)) se_str) (sa_cons (se_op od_add ops_dd (g.v 1 (by kernel_rfl)) se_str) (sa_cons (se_op od_add ops_dd (se_op od_add ops_dd (g.v 2 (by kernel_rfl)) se_str) (g.v 1 (by kernel_rfl))) sa_nil))))))) (by kernel_rfl) (by kernel_rfl) (.inl rfl) (fun _ => rfl))
  (sss_one (ss_ret (se_op od_add ops_dd (g.v 5 (by kernel_rfl)) (se_lst (sa_cons se_str (sa_cons se_str sa_nil)))))))))))
section
variable {P : Program} {w : World} {K : PySem.W.Frag} {mg : Str → Option Value} {bs : Heap}
theorem kok__law_texts (T : Tx fa fn K mg bs) (TX : exAll rows owns tys K = true) (TO : ownB ocl K = true) (TP : PgAll K) (TZ : Tz K mg bs) (TE : exmB rows hcls K = true) (d__law_draw : DefOk P w K mg bs "_law_draw" 1 ["_law_pot_here", "_law_size"] F__law_draw) {n : Nat} {ks : List Str} {gW : List W → List W → List W} (hB : ∀ fd, FunD K "_law_texts" "_law_texts" (defArgs (top 25)) (defBody (top 25)) sc__law_texts [] [] (He.ga K "_law_texts") fd → Bdg K fd ["_law_pot_here", "_law_word_here", "_law_side"] n ks gW) : DefKw P w K mg bs "_law_texts" 2 ["_law_pot_here", "_law_word_here", "_law_side"] F__law_texts n ks gW :=
  defOk_of (T.says.def_ 14 rfl) S__law_texts T.sm ⟨rfl, by decide, by decide⟩ (fun X e1 e2 e3 e4 e5 g => by subst e1 e2 e3 e4 e5; exact b__law_texts T TX TO TP TZ TE g d__law_draw) hB
theorem ok__law_texts (T : Tx fa fn K mg bs) (TX : exAll rows owns tys K = true) (TO : ownB ocl K = true) (TP : PgAll K) (TZ : Tz K mg bs) (TE : exmB rows hcls K = true) (d__law_draw : DefOk P w K mg bs "_law_draw" 1 ["_law_pot_here", "_law_size"] F__law_draw) : DefOk P w K mg bs "_law_texts" 2 ["_law_pot_here", "_law_word_here", "_law_side"] F__law_texts :=
  (kok__law_texts T TX TO TP TZ TE d__law_draw fun fd F => bdg_pos F fun _ _ _ _ _ _ us hl => match us, hl with | [_, _, _], _ => rfl).pos
end
abbrev sc__law_is_name : Scope := defScope (top 21)
def N__law_is_name : List Str := ["_law_thing", "_law_small", "_law_sign"]
theorem S__law_is_name : FnScope N__law_is_name ["_law_thing"] sc__law_is_name := ⟨rfl, rfl, rfl, by decide +kernel, rfl, by decide +kernel, by decide +kernel⟩

def m__law_is_name : SM := sSeq (sSet 1 (mC (.str "abcdefghijklmnopqrstuvwxyz")))
  (sSeq (sIf (mOrT (mNotT (mTest (mCa fIsi (mCons (mVar 0) (mCons (mC (.ty "str")) (mNil)))))) (mOrT (mTest (mOp gEq (mVar 0) (mC (.str "")))) (mOrT (mTest (mOp fGt (mCa fLen (mCons (mVar 0) (mNil))) (mC (.int 6)))) (mTest (mOp fNotIn (mOp fIx (mVar 0) (mC (.int 0))) (mVar 1)))))) (sRet (mC (.bl false))) (sNil))
  (sRet (mCa fAll (mCons (mLc (iAny (mVar 0)) (.one 2) (tYesM) (mOr (mOp fIn (mVar 2) (mVar 1)) (mOp fIn (mVar 2) (mC (.str "0123456789")))) [2]) (mNil)))))
def F__law_is_name : FM := mFn N__law_is_name m__law_is_name
theorem b__law_is_name {X : Cx} (T : Tx fa fn X.K X.mg X.base) (TX : exAll rows owns tys X.K = true) (TO : ownB ocl X.K = true) (TP : PgAll X.K) (TZ : Tz X.K X.mg X.base) (TE : exmB rows hcls X.K = true) (gF : GoodF X N__law_is_name sc__law_is_name 0) : SSs X (defBody (top 21)) m__law_is_name := by
  have g := gF.toGood
  exact (sss_cons (g.set 1 se_str (by kernel_rfl) (by kernel_rfl) (.inl rfl) (fun _ => rfl))
  (sss_cons (ss_if (SW.st (sw_or (st_not (st_val (se_callB cd_isi cas_dd (g.gl (by kernel_rfl)) (T.free 29 rfl) bt_isinstance (sa_cons (g.v 0 (by kernel_rfl)) (sa_cons (se_bty (g.gl (by kernel_rfl)) (T.free 34 rfl) bt_str) sa_nil))))) (sw_or (st_cmp (od_geq g.rm) ops_dd (g.v 0 (by kernel_rfl)) se_str (nomark _)) (sw_or (st_cmp od_gt ops_dd (se_callB cd_len cas_dd (g.gl (by kernel_rfl)) (T.free 30 rfl) bt_len (sa_cons (g.v 0 (by kernel_rfl)) sa_nil)) se_int (nomark _)) (sw_or1 (st_cmp (od_notIn g.rm) ops_dd (se_ix (od_ix g.rm) ops_dd (g.v 0 (by kernel_rfl)) se_int (fun _ _ => rfl)) (g.v 1 (by kernel_rfl)) (by with_unfolding_all rfl))))))) (sss_one (ss_ret se_bl)) sss_nil)
  (sss_one (ss_ret (se_callB (cd_all g.rm) cas_dd (g.gl (by kernel_rfl)) (T.free 26 rfl) bt_all (sa_cons (g.lc [("_law_sign", 2)] (.one 2) (si_any (g.v 0 (by kernel_rfl))) (blkOk_by (by decide +kernel)) (fun _ _ _ _ _ g1 => ⟨(g1.ct1 2 (by kernel_rfl) (by kernel_rfl) (by first | exact .inl rfl | exact .inr (by kernel_rfl))), sts_nil, (se_or (se_cmp (od_in g1.rm) ops_dd (g1.v 2 (by kernel_rfl)) (g1.v 1 (by kernel_rfl)) (by with_unfolding_all rfl)) (se_one (se_cmp (od_in g1.rm) ops_dd (g1.v 2 (by kernel_rfl)) se_str (by with_unfolding_all rfl))))⟩) rfl (fun _ _ => rfl)) sa_nil))))))
section
variable {P : Program} {w : World} {K : PySem.W.Frag} {mg : Str → Option Value} {bs : Heap}
theorem kok__law_is_name (T : Tx fa fn K mg bs) (TX : exAll rows owns tys K = true) (TO : ownB ocl K = true) (TP : PgAll K) (TZ : Tz K mg bs) (TE : exmB rows hcls K = true) {n : Nat} {ks : List Str} {gW : List W → List W → List W} (hB : ∀ fd, FunD K "_law_is_name" "_law_is_name" (defArgs (top 21)) (defBody (top 21)) sc__law_is_name [] [] (He.ga K "_law_is_name") fd → Bdg K fd ["_law_thing"] n ks gW) : DefKw P w K mg bs "_law_is_name" 1 ["_law_thing"] F__law_is_name n ks gW :=
  defOk_of (T.says.def_ 10 rfl) S__law_is_name T.sm ⟨rfl, by decide, by decide⟩ (fun X e1 e2 e3 e4 e5 g => by subst e1 e2 e3 e4 e5; exact b__law_is_name T TX TO TP TZ TE g ) hB
theorem ok__law_is_name (T : Tx fa fn K mg bs) (TX : exAll rows owns tys K = true) (TO : ownB ocl K = true) (TP : PgAll K) (TZ : Tz K mg bs) (TE : exmB rows hcls K = true) : DefOk P w K mg bs "_law_is_name" 1 ["_law_thing"] F__law_is_name :=
  (kok__law_is_name T TX TO TP TZ TE  fun fd F => bdg_pos F fun _ _ _ _ _ _ us hl => match us, hl with | [_], _ => rfl).pos
end
abbrev sc__law_is_end : Scope := defScope (top 22)
def N__law_is_end : List Str := ["_law_thing"]
theorem S__law_is_end : FnScope N__law_is_end ["_law_thing"] sc__law_is_end := ⟨rfl, rfl, rfl, by decide +kernel, rfl, by decide +kernel, by decide +kernel⟩

def m__law_is_end : SM := sSeq (sIf (mOrT (mNotT (mTest (mCa fIsi (mCons (mVar 0) (mCons (mC (.ty "tuple")) (mNil)))))) (mOrT (mTest (mOp fNe (mCa fLen (mCons (mVar 0) (mNil))) (mC (.int 2)))) (mNotT (mTest (mCa fIsi (mCons (mOp fIx (mVar 0) (mC (.int 1))) (mCons (mC (.ty "str")) (mNil)))))))) (sRet (mC (.bl false))) (sNil))
  (sRet (mAnd (mDef 1 0 (fun ws _ => ws) F__law_is_name (mCons (mOp fIx (mVar 0) (mC (.int 0))) (mNil)) mNil) (mOr (mOp gEq (mOp fIx (mVar 0) (mC (.int 1))) (mC (.str "begin"))) (mOp gEq (mOp fIx (mVar 0) (mC (.int 1))) (mC (.str "end"))))))
def F__law_is_end : FM := mFn N__law_is_end m__law_is_end
theorem b__law_is_end {X : Cx} (T : Tx fa fn X.K X.mg X.base) (TX : exAll rows owns tys X.K = true) (TO : ownB ocl X.K = true) (TP : PgAll X.K) (TZ : Tz X.K X.mg X.base) (TE : exmB rows hcls X.K = true) (gF : GoodF X N__law_is_end sc__law_is_end 1) (d__law_is_name : DefOk X.prog X.w X.K X.mg X.base "_law_is_name" 1 ["_law_thing"] F__law_is_name) : SSs X (defBody (top 22)) m__law_is_end := by
  have g := gF.toGood
  exact (sss_cons (ss_if (SW.st (sw_or (st_not (st_val (se_callB cd_isi cas_dd (g.gl (by kernel_rfl)) (T.free 29 rfl) bt_isinstance (sa_cons (g.v 0 (by kernel_rfl)) (sa_cons (se_bty (g.gl (by kernel_rfl)) (T.free 35 rfl) bt_tuple) sa_nil))))) (sw_or (st_cmp (od_ne g.rm) ops_dd (se_callB cd_len cas_dd (g.gl (by kernel_rfl)) (T.free 30 rfl) bt_len (sa_cons (g.v 0 (by kernel_rfl)) sa_nil)) se_int (nomark _)) (sw_or1 (st_not (st_val (se_callB cd_isi cas_dd (g.gl (by kernel_rfl)) (T.free 29 rfl) bt_isinstance (sa_cons (se_ix (od_ix g.rm) ops_dd (g.v 0 (by kernel_rfl)) se_int (fun _ _ => rfl)) (sa_cons (se_bty (g.gl (by kernel_rfl)) (T.free 34 rfl) bt_str) sa_nil))))))))) (sss_one (ss_ret se_bl)) sss_nil)
  (sss_one (ss_ret (se_and (g.callP d__law_is_name rfl (by kernel_rfl) (T.glo 10 rfl) (sa_cons (se_ix (od_ix g.rm) ops_dd (g.v 0 (by kernel_rfl)) se_int (fun _ _ => rfl)) sa_nil)) (se_one (se_or (se_cmp (od_geq g.rm) ops_dd (se_ix (od_ix g.rm) ops_dd (g.v 0 (by kernel_rfl)) se_int (fun _ _ => rfl)) se_str (nomark _)) (se_one (se_cmp (od_geq g.rm) ops_dd (se_ix (od_ix g.rm) ops_dd (g.v 0 (by kernel_rfl)) se_int (fun _ _ => rfl)) se_str (nomark _)))))))))
section
variable {P : Program} {w : World} {K : PySem.W.Frag} {mg : Str → Option Value} {bs : Heap}
theorem kok__law_is_end (T : Tx fa fn K mg bs) (TX : exAll rows owns tys K = true) (TO : ownB ocl K = true) (TP : PgAll K) (TZ : Tz K mg bs) (TE : exmB rows hcls K = true) (d__law_is_name : DefOk P w K mg bs "_law_is_name" 1 ["_law_thing"] F__law_is_name) {n : Nat} {ks : List Str} {gW : List W → List W → List W} (hB : ∀ fd, FunD K "_law_is_end" "_law_is_end" (defArgs (top 22)) (defBody (top 22)) sc__law_is_end [] [] (He.ga K "_law_is_end") fd → Bdg K fd ["_law_thing"] n ks gW) : DefKw P w K mg bs "_law_is_end" 2 ["_law_thing"] F__law_is_end n ks gW :=
  defOk_of (T.says.def_ 11 rfl) S__law_is_end T.sm ⟨rfl, by decide, by decide⟩ (fun X e1 e2 e3 e4 e5 g => by subst e1 e2 e3 e4 e5; exact b__law_is_end T TX TO TP TZ TE g d__law_is_name) hB
theorem ok__law_is_end (T : Tx fa fn K mg bs) (TX : exAll rows owns tys K = true) (TO : ownB ocl K = true) (TP : PgAll K) (TZ : Tz K mg bs) (TE : exmB rows hcls K = true) (d__law_is_name : DefOk P w K mg bs "_law_is_name" 1 ["_law_thing"] F__law_is_name) : DefOk P w K mg bs "_law_is_end" 2 ["_law_thing"] F__law_is_end :=
  (kok__law_is_end T TX TO TP TZ TE d__law_is_name fun fd F => bdg_pos F fun _ _ _ _ _ _ us hl => match us, hl with | [_], _ => rfl).pos
end
abbrev sc__law_read : Scope := defScope (top 23)
def N__law_read : List Str := ["_law_line", "_law_parts"]
theorem S__law_read : FnScope N__law_read ["_law_line"] sc__law_read := ⟨rfl, rfl, rfl, by decide +kernel, rfl, by decide +kernel, by decide +kernel⟩

def m__law_read : SM := sSeq (sSet 1 (mMb "str" fSplit (mVar 0) (mCons (mC (.str ".")) (mNil))))
  (sRet (mIf (mAndT (mTest (mOp gEq (mCa fLen (mCons (mVar 1) (mNil))) (mC (.int 2)))) (mTest (mDef 1 0 (fun ws _ => ws) F__law_is_end (mCons (mCa fTupA (mCons (mVar 1) (mNil))) (mNil)) mNil))) (mCa fTupA (mCons (mVar 1) (mNil))) (mC .non)))
def F__law_read : FM := mFn N__law_read m__law_read
theorem b__law_read {X : Cx} (T : Tx fa fn X.K X.mg X.base) (TX : exAll rows owns tys X.K = true) (TO : ownB ocl X.K = true) (TP : PgAll X.K) (TZ : Tz X.K X.mg X.base) (TE : exmB rows hcls X.K = true) (gF : GoodF X N__law_read sc__law_read 2) (d__law_is_end : DefOk X.prog X.w X.K X.mg X.base "_law_is_end" 2 ["_law_thing"] F__law_is_end) : SSs X (defBody (top 23)) m__law_read := by
  have g := gF.toGood
  exact (sss_cons (g.set 1 (se_mb PySem.F.plainAttrs_str PySem.F.slot_str_split PySem.F.type_str_split mt_split' (g.v 0 (by kernel_rfl)) (sa_cons se_str sa_nil)) (by kernel_rfl) (by kernel_rfl) (.inl rfl) (fun _ => rfl))
  (sss_one (ss_ret (se_if (SW.st (sw_and (st_cmp (od_geq g.rm) ops_dd (se_callB cd_len cas_dd (g.gl (by kernel_rfl)) (T.free 30 rfl) bt_len (sa_cons (g.v 1 (by kernel_rfl)) sa_nil)) se_int (nomark _)) (sw_and1 (st_val (g.callP d__law_is_end rfl (by kernel_rfl) (T.glo 11 rfl) (sa_cons (se_callTy (cd_tupleA g.rm) cas_dd (g.gl (by kernel_rfl)) (T.free 35 rfl) bt_tuple (sa_cons (g.v 1 (by kernel_rfl)) sa_nil)) sa_nil)))))) (se_callTy (cd_tupleA g.rm) cas_dd (g.gl (by kernel_rfl)) (T.free 35 rfl) bt_tuple (sa_cons (g.v 1 (by kernel_rfl)) sa_nil)) se_non))))
section
variable {P : Program} {w : World} {K : PySem.W.Frag} {mg : Str → Option Value} {bs : Heap}
theorem kok__law_read (T : Tx fa fn K mg bs) (TX : exAll rows owns tys K = true) (TO : ownB ocl K = true) (TP : PgAll K) (TZ : Tz K mg bs) (TE : exmB rows hcls K = true) (d__law_is_end : DefOk P w K mg bs "_law_is_end" 2 ["_law_thing"] F__law_is_end) {n : Nat} {ks : List Str} {gW : List W → List W → List W} (hB : ∀ fd, FunD K "_law_read" "_law_read" (defArgs (top 23)) (defBody (top 23)) sc__law_read [] [] (He.ga K "_law_read") fd → Bdg K fd ["_law_line"] n ks gW) : DefKw P w K mg bs "_law_read" 3 ["_law_line"] F__law_read n ks gW :=
  defOk_of (T.says.def_ 12 rfl) S__law_read T.sm ⟨rfl, by decide, by decide⟩ (fun X e1 e2 e3 e4 e5 g => by subst e1 e2 e3 e4 e5; exact b__law_read T TX TO TP TZ TE g d__law_is_end) hB
theorem ok__law_read (T : Tx fa fn K mg bs) (TX : exAll rows owns tys K = true) (TO : ownB ocl K = true) (TP : PgAll K) (TZ : Tz K mg bs) (TE : exmB rows hcls K = true) (d__law_is_end : DefOk P w K mg bs "_law_is_end" 2 ["_law_thing"] F__law_is_end) : DefOk P w K mg bs "_law_read" 3 ["_law_line"] F__law_read :=
  (kok__law_read T TX TO TP TZ TE d__law_is_end fun fd F => bdg_pos F fun _ _ _ _ _ _ us hl => match us, hl with | [_], _ => rfl).pos
end
abbrev sc_want_string : Scope := defScope (top 12)
def N_want_string : List Str := ["text"]
theorem S_want_string : FnScope N_want_string ["text"] sc_want_string := ⟨rfl, rfl, rfl, by decide +kernel, rfl, by decide +kernel, by decide +kernel⟩

def m_want_string : SM := sIf (mNotT (mTest (mCa fIsi (mCons (mVar 0) (mCons (mC (.ty "str")) (mNil)))))) (sRaise (mExc "InvalidText" ["line"] 1 0 (fun ws _ => ws) (mCons (mC .non) (mNil)) mNil)) (sNil)
def F_want_string : FM := mFn N_want_string m_want_string
theorem b_want_string {X : Cx} (T : Tx fa fn X.K X.mg X.base) (TX : exAll rows owns tys X.K = true) (TO : ownB ocl X.K = true) (TP : PgAll X.K) (TZ : Tz X.K X.mg X.base) (TE : exmB rows hcls X.K = true) (gF : GoodF X N_want_string sc_want_string 2) (x_InvalidText : ExcK X.prog X.w X.K X.mg X.base "InvalidText" 1 1 [] ["line"] (fun ws _ => ws)) : SSs X (defBody (top 12)) m_want_string := by
  have g := gF.toGood
  exact (sss_one (ss_if (st_not (st_val (se_callB cd_isi cas_dd (g.gl (by kernel_rfl)) (T.free 29 rfl) bt_isinstance (sa_cons (g.v 0 (by kernel_rfl)) (sa_cons (se_bty (g.gl (by kernel_rfl)) (T.free 34 rfl) bt_str) sa_nil))))) (sss_one (ss_raise g.calm (g.rexc TX (by decide) x_InvalidText rfl (by kernel_rfl) (T.glo 18 rfl) (sa_cons se_non sa_nil)))) sss_nil))
section
variable {P : Program} {w : World} {K : PySem.W.Frag} {mg : Str → Option Value} {bs : Heap}
theorem kok_want_string (T : Tx fa fn K mg bs) (TX : exAll rows owns tys K = true) (TO : ownB ocl K = true) (TP : PgAll K) (TZ : Tz K mg bs) (TE : exmB rows hcls K = true) (x_InvalidText : ExcK P w K mg bs "InvalidText" 1 1 [] ["line"] (fun ws _ => ws)) {n : Nat} {ks : List Str} {gW : List W → List W → List W} (hB : ∀ fd, FunD K "want_string" "want_string" (defArgs (top 12)) (defBody (top 12)) sc_want_string [] [] (He.ga K "want_string") fd → Bdg K fd ["text"] n ks gW) : DefKw P w K mg bs "want_string" 3 ["text"] F_want_string n ks gW :=
  defOk_of (T.says.def_ 2 rfl) S_want_string T.sm ⟨rfl, by decide, by decide⟩ (fun X e1 e2 e3 e4 e5 g => by subst e1 e2 e3 e4 e5; exact b_want_string T TX TO TP TZ TE g x_InvalidText) hB
theorem ok_want_string (T : Tx fa fn K mg bs) (TX : exAll rows owns tys K = true) (TO : ownB ocl K = true) (TP : PgAll K) (TZ : Tz K mg bs) (TE : exmB rows hcls K = true) (x_InvalidText : ExcK P w K mg bs "InvalidText" 1 1 [] ["line"] (fun ws _ => ws)) : DefOk P w K mg bs "want_string" 3 ["text"] F_want_string :=
  (kok_want_string T TX TO TP TZ TE x_InvalidText fun fd F => bdg_pos F fun _ _ _ _ _ _ us hl => match us, hl with | [_], _ => rfl).pos
end
abbrev sc_is_name : Scope := defScope (top 9)
def N_is_name : List Str := ["value", "sign"]
theorem S_is_name : FnScope N_is_name ["value"] sc_is_name := ⟨rfl, rfl, rfl, by decide +kernel, rfl, by decide +kernel, by decide +kernel⟩

def m_is_name : SM := sSeq (sIf (mOrT (mNotT (mTest (mCa fIsi (mCons (mVar 0) (mCons (mC (.ty "str")) (mNil)))))) (mOrT (mNotT (mTest (mChain fLe fLe (mC (.int 1)) (mCa fLen (mCons (mVar 0) (mNil))) (mC (.int 6))))) (mTest (mOp fNotIn (mOp fIx (mVar 0) (mC (.int 0))) (mC (.str "abcdefghijklmnopqrstuvwxyz")))))) (sRet (mC (.bl false))) (sNil))
  (sRet (mCa fAll (mCons (mLc (iAny (mVar 0)) (.one 1) (tYesM) (mOr (mOp fIn (mVar 1) (mC (.str "abcdefghijklmnopqrstuvwxyz"))) (mOp fIn (mVar 1) (mC (.str "0123456789")))) [1]) (mNil))))
def F_is_name : FM := mFn N_is_name m_is_name
theorem b_is_name {X : Cx} (T : Tx fa fn X.K X.mg X.base) (TX : exAll rows owns tys X.K = true) (TO : ownB ocl X.K = true) (TP : PgAll X.K) (TZ : Tz X.K X.mg X.base) (TE : exmB rows hcls X.K = true) (gF : GoodF X N_is_name sc_is_name 0) : SSs X (defBody (top 9)) m_is_name := by
  have g := gF.toGood
  exact (sss_cons (ss_if (SW.st (sw_or (st_not (st_val (se_callB cd_isi cas_dd (g.gl (by kernel_rfl)) (T.free 29 rfl) bt_isinstance (sa_cons (g.v 0 (by kernel_rfl)) (sa_cons (se_bty (g.gl (by kernel_rfl)) (T.free 34 rfl) bt_str) sa_nil))))) (sw_or (st_not (st_chain od_le od_le ops_dd ops_dd se_int (se_callB cd_len cas_dd (g.gl (by kernel_rfl)) (T.free 30 rfl) bt_len (sa_cons (g.v 0 (by kernel_rfl)) sa_nil)) (se_gint (g.gl (by kernel_rfl)) (T.int 21 rfl)))) (sw_or1 (st_cmp (od_notIn g.rm) ops_dd (se_ix (od_ix g.rm) ops_dd (g.v 0 (by kernel_rfl)) se_int (fun _ _ => rfl)) (se_gstr (g.gl (by kernel_rfl)) (T.str 19 rfl)) (by with_unfolding_all rfl)))))) (sss_one (ss_ret se_bl)) sss_nil)
  (sss_one (ss_ret (se_callB (cd_all g.rm) cas_dd (g.gl (by kernel_rfl)) (T.free 26 rfl) bt_all (sa_cons (g.lc [("sign", 1)] (.one 1) (si_any (g.v 0 (by kernel_rfl))) (blkOk_by (by decide +kernel)) (fun _ _ _ _ _ g1 => ⟨(g1.ct1 1 (by kernel_rfl) (by kernel_rfl) (by first | exact .inl rfl | exact .inr (by kernel_rfl))), sts_nil, (se_or (se_cmp (od_in g1.rm) ops_dd (g1.v 1 (by kernel_rfl)) (se_gstr (g1.gl (by kernel_rfl)) (T.str 19 rfl)) (by with_unfolding_all rfl)) (se_one (se_cmp (od_in g1.rm) ops_dd (g1.v 1 (by kernel_rfl)) (se_gstr (g1.gl (by kernel_rfl)) (T.str 20 rfl)) (by with_unfolding_all rfl))))⟩) rfl (fun _ _ => rfl)) sa_nil)))))
section
variable {P : Program} {w : World} {K : PySem.W.Frag} {mg : Str → Option Value} {bs : Heap}
theorem kok_is_name (T : Tx fa fn K mg bs) (TX : exAll rows owns tys K = true) (TO : ownB ocl K = true) (TP : PgAll K) (TZ : Tz K mg bs) (TE : exmB rows hcls K = true) {n : Nat} {ks : List Str} {gW : List W → List W → List W} (hB : ∀ fd, FunD K "is_name" "is_name" (defArgs (top 9)) (defBody (top 9)) sc_is_name [] [] (He.ga K "is_name") fd → Bdg K fd ["value"] n ks gW) : DefKw P w K mg bs "is_name" 1 ["value"] F_is_name n ks gW :=
  defOk_of (T.says.def_ 0 rfl) S_is_name T.sm ⟨rfl, by decide, by decide⟩ (fun X e1 e2 e3 e4 e5 g => by subst e1 e2 e3 e4 e5; exact b_is_name T TX TO TP TZ TE g ) hB
theorem ok_is_name (T : Tx fa fn K mg bs) (TX : exAll rows owns tys K = true) (TO : ownB ocl K = true) (TP : PgAll K) (TZ : Tz K mg bs) (TE : exmB rows hcls K = true) : DefOk P w K mg bs "is_name" 1 ["value"] F_is_name :=
  (kok_is_name T TX TO TP TZ TE  fun fd F => bdg_pos F fun _ _ _ _ _ _ us hl => match us, hl with | [_], _ => rfl).pos
end
abbrev sc_end_told : Scope := defScope (top 14)
def N_end_told : List Str := ["text", "parts"]
theorem S_end_told : FnScope N_end_told ["text"] sc_end_told := ⟨rfl, rfl, rfl, by decide +kernel, rfl, by decide +kernel, by decide +kernel⟩

def m_end_told : SM := sSeq (sSet 1 (mMb "str" fSplit (mVar 0) (mCons (mC (.str ".")) (mNil))))
  (sSeq (sIf (mOrT (mTest (mOp fNe (mCa fLen (mCons (mVar 1) (mNil))) (mC (.int 2)))) (mOrT (mNotT (mTest (mDef 1 0 (fun ws _ => ws) F_is_name (mCons (mOp fIx (mVar 1) (mC (.int 0))) (mNil)) mNil))) (mTest (mOp fNotIn (mOp fIx (mVar 1) (mC (.int 1))) (mTup (mCons (mC (.str "begin")) (mCons (mC (.str "end")) (mNil)))))))) (sRet (mC .non)) (sNil))
  (sRet (mTup (mCons (mOp fIx (mVar 1) (mC (.int 0))) (mCons (mOp fIx (mVar 1) (mC (.int 1))) (mNil))))))
def F_end_told : FM := mFn N_end_told m_end_told
theorem b_end_told {X : Cx} (T : Tx fa fn X.K X.mg X.base) (TX : exAll rows owns tys X.K = true) (TO : ownB ocl X.K = true) (TP : PgAll X.K) (TZ : Tz X.K X.mg X.base) (TE : exmB rows hcls X.K = true) (gF : GoodF X N_end_told sc_end_told 1) (d_is_name : DefOk X.prog X.w X.K X.mg X.base "is_name" 1 ["value"] F_is_name) : SSs X (defBody (top 14)) m_end_told := by
  have g := gF.toGood
  exact (sss_cons (g.set 1 (se_mb PySem.F.plainAttrs_str PySem.F.slot_str_split PySem.F.type_str_split mt_split' (g.v 0 (by kernel_rfl)) (sa_cons se_str sa_nil)) (by kernel_rfl) (by kernel_rfl) (.inl rfl) (fun _ => rfl))
  (sss_cons (ss_if (SW.st (sw_or (st_cmp (od_ne g.rm) ops_dd (se_callB cd_len cas_dd (g.gl (by kernel_rfl)) (T.free 30 rfl) bt_len (sa_cons (g.v 1 (by kernel_rfl)) sa_nil)) se_int (nomark _)) (sw_or (st_not (st_val (g.callP d_is_name rfl (by kernel_rfl) (T.glo 0 rfl) (sa_cons (se_ix (od_ix g.rm) ops_dd (g.v 1 (by kernel_rfl)) se_int (fun _ _ => rfl)) sa_nil)))) (sw_or1 (st_cmp (od_notIn g.rm) ops_dd (se_ix (od_ix g.rm) ops_dd (g.v 1 (by kernel_rfl)) se_int (fun _ _ => rfl)) (se_tup (sa_cons (se_gstr (g.gl (by kernel_rfl)) (T.str 22 rfl)) (sa_cons (se_gstr (g.gl (by kernel_rfl)) (T.str 23 rfl)) sa_nil))) (by with_unfolding_all rfl)))))) (sss_one (ss_ret se_non)) sss_nil)
  (sss_one (ss_ret (se_tup (sa_cons (se_ix (od_ix g.rm) ops_dd (g.v 1 (by kernel_rfl)) se_int (fun _ _ => rfl)) (sa_cons (se_ix (od_ix g.rm) ops_dd (g.v 1 (by kernel_rfl)) se_int (fun _ _ => rfl)) sa_nil)))))))
section
variable {P : Program} {w : World} {K : PySem.W.Frag} {mg : Str → Option Value} {bs : Heap}
theorem kok_end_told (T : Tx fa fn K mg bs) (TX : exAll rows owns tys K = true) (TO : ownB ocl K = true) (TP : PgAll K) (TZ : Tz K mg bs) (TE : exmB rows hcls K = true) (d_is_name : DefOk P w K mg bs "is_name" 1 ["value"] F_is_name) {n : Nat} {ks : List Str} {gW : List W → List W → List W} (hB : ∀ fd, FunD K "end_told" "end_told" (defArgs (top 14)) (defBody (top 14)) sc_end_told [] [] (He.ga K "end_told") fd → Bdg K fd ["text"] n ks gW) : DefKw P w K mg bs "end_told" 2 ["text"] F_end_told n ks gW :=
  defOk_of (T.says.def_ 4 rfl) S_end_told T.sm ⟨rfl, by decide, by decide⟩ (fun X e1 e2 e3 e4 e5 g => by subst e1 e2 e3 e4 e5; exact b_end_told T TX TO TP TZ TE g d_is_name) hB
theorem ok_end_told (T : Tx fa fn K mg bs) (TX : exAll rows owns tys K = true) (TO : ownB ocl K = true) (TP : PgAll K) (TZ : Tz K mg bs) (TE : exmB rows hcls K = true) (d_is_name : DefOk P w K mg bs "is_name" 1 ["value"] F_is_name) : DefOk P w K mg bs "end_told" 2 ["text"] F_end_told :=
  (kok_end_told T TX TO TP TZ TE d_is_name fun fd F => bdg_pos F fun _ _ _ _ _ _ us hl => match us, hl with | [_], _ => rfl).pos
end
abbrev sc_read_end : Scope := defScope (top 15)
def N_read_end : List Str := ["text", "found"]
theorem S_read_end : FnScope N_read_end ["text"] sc_read_end := ⟨rfl, rfl, rfl, by decide +kernel, rfl, by decide +kernel, by decide +kernel⟩

def m_read_end : SM := sSeq (sDrop (mDef 1 0 (fun ws _ => ws) F_want_string (mCons (mVar 0) (mNil)) mNil))
  (sSeq (sSet 1 (mDef 1 0 (fun ws _ => ws) F_end_told (mCons (mVar 0) (mNil)) mNil))
  (sSeq (sIf (mTest (mOp fIs (mVar 1) (mC .non))) (sRaise (mExc "InvalidText" ["line"] 1 0 (fun ws _ => ws) (mCons (mC (.int 1)) (mNil)) mNil)) (sNil))
  (sRet (mVar 1))))
def F_read_end : FM := mFn N_read_end m_read_end
theorem b_read_end {X : Cx} (T : Tx fa fn X.K X.mg X.base) (TX : exAll rows owns tys X.K = true) (TO : ownB ocl X.K = true) (TP : PgAll X.K) (TZ : Tz X.K X.mg X.base) (TE : exmB rows hcls X.K = true) (gF : GoodF X N_read_end sc_read_end 3) (d_want_string : DefOk X.prog X.w X.K X.mg X.base "want_string" 3 ["text"] F_want_string) (d_end_told : DefOk X.prog X.w X.K X.mg X.base "end_told" 2 ["text"] F_end_told) (x_InvalidText : ExcK X.prog X.w X.K X.mg X.base "InvalidText" 1 1 [] ["line"] (fun ws _ => ws)) : SSs X (defBody (top 15)) m_read_end := by
  have g := gF.toGood
  exact (sss_cons (g.expr (g.callP d_want_string rfl (by kernel_rfl) (T.glo 2 rfl) (sa_cons (g.v 0 (by kernel_rfl)) sa_nil)) (fun _ => rfl))
  (sss_cons (g.set 1 (g.callP d_end_told rfl (by kernel_rfl) (T.glo 4 rfl) (sa_cons (g.v 0 (by kernel_rfl)) sa_nil)) (by kernel_rfl) (by kernel_rfl) (.inl rfl) (fun _ => rfl))
  (sss_cons (ss_if (st_cmp od_is ops_dd (g.v 1 (by kernel_rfl)) se_non (nomark _)) (sss_one (ss_raise g.calm (g.rexc TX (by decide) x_InvalidText rfl (by kernel_rfl) (T.glo 18 rfl) (sa_cons se_int sa_nil)))) sss_nil)
  (sss_one (ss_ret (g.v 1 (by kernel_rfl)))))))
section
variable {P : Program} {w : World} {K : PySem.W.Frag} {mg : Str → Option Value} {bs : Heap}
theorem kok_read_end (T : Tx fa fn K mg bs) (TX : exAll rows owns tys K = true) (TO : ownB ocl K = true) (TP : PgAll K) (TZ : Tz K mg bs) (TE : exmB rows hcls K = true) (d_want_string : DefOk P w K mg bs "want_string" 3 ["text"] F_want_string) (d_end_told : DefOk P w K mg bs "end_told" 2 ["text"] F_end_told) (x_InvalidText : ExcK P w K mg bs "InvalidText" 1 1 [] ["line"] (fun ws _ => ws)) {n : Nat} {ks : List Str} {gW : List W → List W → List W} (hB : ∀ fd, FunD K "read_end" "read_end" (defArgs (top 15)) (defBody (top 15)) sc_read_end [] [] (He.ga K "read_end") fd → Bdg K fd ["text"] n ks gW) : DefKw P w K mg bs "read_end" 4 ["text"] F_read_end n ks gW :=
  defOk_of (T.says.def_ 5 rfl) S_read_end T.sm ⟨rfl, by decide, by decide⟩ (fun X e1 e2 e3 e4 e5 g => by subst e1 e2 e3 e4 e5; exact b_read_end T TX TO TP TZ TE g d_want_string d_end_told x_InvalidText) hB
theorem ok_read_end (T : Tx fa fn K mg bs) (TX : exAll rows owns tys K = true) (TO : ownB ocl K = true) (TP : PgAll K) (TZ : Tz K mg bs) (TE : exmB rows hcls K = true) (d_want_string : DefOk P w K mg bs "want_string" 3 ["text"] F_want_string) (d_end_told : DefOk P w K mg bs "end_told" 2 ["text"] F_end_told) (x_InvalidText : ExcK P w K mg bs "InvalidText" 1 1 [] ["line"] (fun ws _ => ws)) : DefOk P w K mg bs "read_end" 4 ["text"] F_read_end :=
  (kok_read_end T TX TO TP TZ TE d_want_string d_end_told x_InvalidText fun fd F => bdg_pos F fun _ _ _ _ _ _ us hl => match us, hl with | [_], _ => rfl).pos
theorem dk_read_end_0_text (T : Tx fa fn K mg bs) (TX : exAll rows owns tys K = true) (TO : ownB ocl K = true) (TP : PgAll K) (TZ : Tz K mg bs) (TE : exmB rows hcls K = true) (d_want_string : DefOk P w K mg bs "want_string" 3 ["text"] F_want_string) (d_end_told : DefOk P w K mg bs "end_told" 2 ["text"] F_end_told) (x_InvalidText : ExcK P w K mg bs "InvalidText" 1 1 [] ["line"] (fun ws _ => ws)) : DefKw P w K mg bs "read_end" 4 ["text"] F_read_end 0 ["text"] (fun ws us => byIx [0] (ws ++ us)) :=
  kok_read_end T TX TO TP TZ TE d_want_string d_end_told x_InvalidText fun fd F => bdg_kw F 0 ["text"] [0] (fun _ _ _ _ _ _ us ws h1 h2 => match us, ws, h1, h2 with | [], [_], _, _ => rfl) (fun us ws h1 h2 => match us, ws, h1, h2 with | [], [_], _, _ => rfl)
end
def N_lam_0 : List Str := ["_law_line"]
def m_lam_0 : EM := mDef 1 0 (fun ws _ => ws) F_read_end (mCons (mVar 0) (mNil)) mNil
def F_lam_0 : FM := mLam N_lam_0 m_lam_0
abbrev sc_lam_0 : Scope := (Lams.of 0).scope
theorem b_lam_0 {X : Cx} (T : Tx fa fn X.K X.mg X.base) (TX : exAll rows owns tys X.K = true) (TO : ownB ocl X.K = true) (TP : PgAll X.K) (TZ : Tz X.K X.mg X.base) (TE : exmB rows hcls X.K = true) (g : Good X N_lam_0 sc_lam_0 4 (fun _ => false)) (d_read_end : DefOk X.prog X.w X.K X.mg X.base "read_end" 4 ["text"] F_read_end) : SE X (Lams.of 0).body m_lam_0 := by
  exact (g.callP d_read_end rfl (by kernel_rfl) (T.glo 5 rfl) (sa_cons (g.v 0 (by kernel_rfl)) sa_nil))
theorem ok_lam_0 {P : Program} {w : World} {K : PySem.W.Frag} {mg : Str → Option Value} {bs : Heap} (T : Tx fa fn K mg bs) (TX : exAll rows owns tys K = true) (TO : ownB ocl K = true) (TP : PgAll K) (TZ : Tz K mg bs) (TE : exmB rows hcls K = true) (d_read_end : DefOk P w K mg bs "read_end" 4 ["text"] F_read_end) : LmD P w K mg bs 5 0 0 F_lam_0 :=
  lmd_of (N := N_lam_0) (ps := []) (i := 0) (NdefX.nscope_by (by kernel_rfl)) T.sm ⟨rfl, by decide, by decide⟩ (fun cl c pm ctv us hl => match us, hl with | [], _ => rfl) (fun X e1 e2 e3 e4 e5 g => by subst e1 e2 e3 e4 e5; exact b_lam_0 T TX TO TP TZ TE g d_read_end)
def N_lam_1 : List Str := ["_law_line"]
def m_lam_1 : EM := mDef 0 1 (fun ws us => byIx [0] (ws ++ us)) F_read_end mNil (mCons (mVar 0) (mNil))
def F_lam_1 : FM := mLam N_lam_1 m_lam_1
abbrev sc_lam_1 : Scope := (Lams.of 1).scope
theorem b_lam_1 {X : Cx} (T : Tx fa fn X.K X.mg X.base) (TX : exAll rows owns tys X.K = true) (TO : ownB ocl X.K = true) (TP : PgAll X.K) (TZ : Tz X.K X.mg X.base) (TE : exmB rows hcls X.K = true) (g : Good X N_lam_1 sc_lam_1 4 (fun _ => false)) (d_read_end : DefOk X.prog X.w X.K X.mg X.base "read_end" 4 ["text"] F_read_end) (dk_read_end_0_text : DefKw X.prog X.w X.K X.mg X.base "read_end" 4 ["text"] F_read_end 0 ["text"] (fun ws us => byIx [0] (ws ++ us))) : SE X (Lams.of 1).body m_lam_1 := by
  exact (g.callN0 dk_read_end_0_text rfl (by kernel_rfl) (T.glo 5 rfl) (sk_cons (g.v 0 (by kernel_rfl)) sk_nil))
theorem ok_lam_1 {P : Program} {w : World} {K : PySem.W.Frag} {mg : Str → Option Value} {bs : Heap} (T : Tx fa fn K mg bs) (TX : exAll rows owns tys K = true) (TO : ownB ocl K = true) (TP : PgAll K) (TZ : Tz K mg bs) (TE : exmB rows hcls K = true) (d_read_end : DefOk P w K mg bs "read_end" 4 ["text"] F_read_end) (dk_read_end_0_text : DefKw P w K mg bs "read_end" 4 ["text"] F_read_end 0 ["text"] (fun ws us => byIx [0] (ws ++ us))) : LmD P w K mg bs 5 1 0 F_lam_1 :=
  lmd_of (N := N_lam_1) (ps := []) (i := 1) (NdefX.nscope_by (by kernel_rfl)) T.sm ⟨rfl, by decide, by decide⟩ (fun cl c pm ctv us hl => match us, hl with | [], _ => rfl) (fun X e1 e2 e3 e4 e5 g => by subst e1 e2 e3 e4 e5; exact b_lam_1 T TX TO TP TZ TE g d_read_end dk_read_end_0_text)
def N_lam_2 : List Str := ["_law_thing"]
def m_lam_2 : EM := mDef 1 0 (fun ws _ => ws) F_read_end (mCons (mVar 0) (mNil)) mNil
def F_lam_2 : FM := mLam N_lam_2 m_lam_2
abbrev sc_lam_2 : Scope := (Lams.of 2).scope
theorem b_lam_2 {X : Cx} (T : Tx fa fn X.K X.mg X.base) (TX : exAll rows owns tys X.K = true) (TO : ownB ocl X.K = true) (TP : PgAll X.K) (TZ : Tz X.K X.mg X.base) (TE : exmB rows hcls X.K = true) (g : Good X N_lam_2 sc_lam_2 4 (fun _ => false)) (d_read_end : DefOk X.prog X.w X.K X.mg X.base "read_end" 4 ["text"] F_read_end) : SE X (Lams.of 2).body m_lam_2 := by
  exact (g.callP d_read_end rfl (by kernel_rfl) (T.glo 5 rfl) (sa_cons (g.v 0 (by kernel_rfl)) sa_nil))
theorem ok_lam_2 {P : Program} {w : World} {K : PySem.W.Frag} {mg : Str → Option Value} {bs : Heap} (T : Tx fa fn K mg bs) (TX : exAll rows owns tys K = true) (TO : ownB ocl K = true) (TP : PgAll K) (TZ : Tz K mg bs) (TE : exmB rows hcls K = true) (d_read_end : DefOk P w K mg bs "read_end" 4 ["text"] F_read_end) : LmD P w K mg bs 5 2 0 F_lam_2 :=
  lmd_of (N := N_lam_2) (ps := []) (i := 2) (NdefX.nscope_by (by kernel_rfl)) T.sm ⟨rfl, by decide, by decide⟩ (fun cl c pm ctv us hl => match us, hl with | [], _ => rfl) (fun X e1 e2 e3 e4 e5 g => by subst e1 e2 e3 e4 e5; exact b_lam_2 T TX TO TP TZ TE g d_read_end)
abbrev sc_is_end : Scope := defScope (top 10)
def N_is_end : List Str := ["value"]
theorem S_is_end : FnScope N_is_end ["value"] sc_is_end := ⟨rfl, rfl, rfl, by decide +kernel, rfl, by decide +kernel, by decide +kernel⟩

def m_is_end : SM := sSeq (sIf (mOrT (mNotT (mTest (mCa fIsi (mCons (mVar 0) (mCons (mC (.ty "tuple")) (mNil)))))) (mOrT (mTest (mOp fNe (mCa fLen (mCons (mVar 0) (mNil))) (mC (.int 2)))) (mNotT (mTest (mDef 1 0 (fun ws _ => ws) F_is_name (mCons (mOp fIx (mVar 0) (mC (.int 0))) (mNil)) mNil))))) (sRet (mC (.bl false))) (sNil))
  (sRet (mAnd (mCa fIsi (mCons (mOp fIx (mVar 0) (mC (.int 1))) (mCons (mC (.ty "str")) (mNil)))) (mOp fIn (mOp fIx (mVar 0) (mC (.int 1))) (mTup (mCons (mC (.str "begin")) (mCons (mC (.str "end")) (mNil)))))))
def F_is_end : FM := mFn N_is_end m_is_end
theorem b_is_end {X : Cx} (T : Tx fa fn X.K X.mg X.base) (TX : exAll rows owns tys X.K = true) (TO : ownB ocl X.K = true) (TP : PgAll X.K) (TZ : Tz X.K X.mg X.base) (TE : exmB rows hcls X.K = true) (gF : GoodF X N_is_end sc_is_end 1) (d_is_name : DefOk X.prog X.w X.K X.mg X.base "is_name" 1 ["value"] F_is_name) : SSs X (defBody (top 10)) m_is_end := by
  have g := gF.toGood
  exact (sss_cons (ss_if (SW.st (sw_or (st_not (st_val (se_callB cd_isi cas_dd (g.gl (by kernel_rfl)) (T.free 29 rfl) bt_isinstance (sa_cons (g.v 0 (by kernel_rfl)) (sa_cons (se_bty (g.gl (by kernel_rfl)) (T.free 35 rfl) bt_tuple) sa_nil))))) (sw_or (st_cmp (od_ne g.rm) ops_dd (se_callB cd_len cas_dd (g.gl (by kernel_rfl)) (T.free 30 rfl) bt_len (sa_cons (g.v 0 (by kernel_rfl)) sa_nil)) se_int (nomark _)) (sw_or1 (st_not (st_val (g.callP d_is_name rfl (by kernel_rfl) (T.glo 0 rfl) (sa_cons (se_ix (od_ix g.rm) ops_dd (g.v 0 (by kernel_rfl)) se_int (fun _ _ => rfl)) sa_nil)))))))) (sss_one (ss_ret se_bl)) sss_nil)
  (sss_one (ss_ret (se_and (se_callB cd_isi cas_dd (g.gl (by kernel_rfl)) (T.free 29 rfl) bt_isinstance (sa_cons (se_ix (od_ix g.rm) ops_dd (g.v 0 (by kernel_rfl)) se_int (fun _ _ => rfl)) (sa_cons (se_bty (g.gl (by kernel_rfl)) (T.free 34 rfl) bt_str) sa_nil))) (se_one (se_cmp (od_in g.rm) ops_dd (se_ix (od_ix g.rm) ops_dd (g.v 0 (by kernel_rfl)) se_int (fun _ _ => rfl)) (se_tup (sa_cons (se_gstr (g.gl (by kernel_rfl)) (T.str 22 rfl)) (sa_cons (se_gstr (g.gl (by kernel_rfl)) (T.str 23 rfl)) sa_nil))) (by with_unfolding_all rfl)))))))
section
variable {P : Program} {w : World} {K : PySem.W.Frag} {mg : Str → Option Value} {bs : Heap}
theorem kok_is_end (T : Tx fa fn K mg bs) (TX : exAll rows owns tys K = true) (TO : ownB ocl K = true) (TP : PgAll K) (TZ : Tz K mg bs) (TE : exmB rows hcls K = true) (d_is_name : DefOk P w K mg bs "is_name" 1 ["value"] F_is_name) {n : Nat} {ks : List Str} {gW : List W → List W → List W} (hB : ∀ fd, FunD K "is_end" "is_end" (defArgs (top 10)) (defBody (top 10)) sc_is_end [] [] (He.ga K "is_end") fd → Bdg K fd ["value"] n ks gW) : DefKw P w K mg bs "is_end" 2 ["value"] F_is_end n ks gW :=
  defOk_of (T.says.def_ 1 rfl) S_is_end T.sm ⟨rfl, by decide, by decide⟩ (fun X e1 e2 e3 e4 e5 g => by subst e1 e2 e3 e4 e5; exact b_is_end T TX TO TP TZ TE g d_is_name) hB
theorem ok_is_end (T : Tx fa fn K mg bs) (TX : exAll rows owns tys K = true) (TO : ownB ocl K = true) (TP : PgAll K) (TZ : Tz K mg bs) (TE : exmB rows hcls K = true) (d_is_name : DefOk P w K mg bs "is_name" 1 ["value"] F_is_name) : DefOk P w K mg bs "is_end" 2 ["value"] F_is_end :=
  (kok_is_end T TX TO TP TZ TE d_is_name fun fd F => bdg_pos F fun _ _ _ _ _ _ us hl => match us, hl with | [_], _ => rfl).pos
end
abbrev sc_end_text : Scope := defScope (top 13)
def N_end_text : List Str := ["end"]
theorem S_end_text : FnScope N_end_text ["end"] sc_end_text := ⟨rfl, rfl, rfl, by decide +kernel, rfl, by decide +kernel, by decide +kernel⟩

def m_end_text : SM := sSeq (sIf (mNotT (mTest (mDef 1 0 (fun ws _ => ws) F_is_end (mCons (mVar 0) (mNil)) mNil))) (sRaise (mExc "InvalidText" ["line"] 1 0 (fun ws _ => ws) (mCons (mC .non) (mNil)) mNil)) (sNil))
  (sRet (mJoined [mUn fFmt (mOp fIx (mVar 0) (mC (.int 0))), mC (.str "."), mUn fFmt (mOp fIx (mVar 0) (mC (.int 1)))]))
def F_end_text : FM := mFn N_end_text m_end_text
theorem b_end_text {X : Cx} (T : Tx fa fn X.K X.mg X.base) (TX : exAll rows owns tys X.K = true) (TO : ownB ocl X.K = true) (TP : PgAll X.K) (TZ : Tz X.K X.mg X.base) (TE : exmB rows hcls X.K = true) (gF : GoodF X N_end_text sc_end_text 2) (d_is_end : DefOk X.prog X.w X.K X.mg X.base "is_end" 2 ["value"] F_is_end) (x_InvalidText : ExcK X.prog X.w X.K X.mg X.base "InvalidText" 1 1 [] ["line"] (fun ws _ => ws)) : SSs X (defBody (top 13)) m_end_text := by
  have g := gF.toGood
  exact (sss_cons (ss_if (st_not (st_val (g.callP d_is_end rfl (by kernel_rfl) (T.glo 1 rfl) (sa_cons (g.v 0 (by kernel_rfl)) sa_nil)))) (sss_one (ss_raise g.calm (g.rexc TX (by decide) x_InvalidText rfl (by kernel_rfl) (T.glo 18 rfl) (sa_cons se_non sa_nil)))) sss_nil)
  (sss_one (ss_ret (se_joined (.cons (se_fmt (se_ix (od_ix g.rm) ops_dd (g.v 0 (by kernel_rfl)) se_int (fun _ _ => rfl))) (.cons se_str (.cons (se_fmt (se_ix (od_ix g.rm) ops_dd (g.v 0 (by kernel_rfl)) se_int (fun _ _ => rfl))) .nil)))))))
section
variable {P : Program} {w : World} {K : PySem.W.Frag} {mg : Str → Option Value} {bs : Heap}
theorem kok_end_text (T : Tx fa fn K mg bs) (TX : exAll rows owns tys K = true) (TO : ownB ocl K = true) (TP : PgAll K) (TZ : Tz K mg bs) (TE : exmB rows hcls K = true) (d_is_end : DefOk P w K mg bs "is_end" 2 ["value"] F_is_end) (x_InvalidText : ExcK P w K mg bs "InvalidText" 1 1 [] ["line"] (fun ws _ => ws)) {n : Nat} {ks : List Str} {gW : List W → List W → List W} (hB : ∀ fd, FunD K "end_text" "end_text" (defArgs (top 13)) (defBody (top 13)) sc_end_text [] [] (He.ga K "end_text") fd → Bdg K fd ["end"] n ks gW) : DefKw P w K mg bs "end_text" 3 ["end"] F_end_text n ks gW :=
  defOk_of (T.says.def_ 3 rfl) S_end_text T.sm ⟨rfl, by decide, by decide⟩ (fun X e1 e2 e3 e4 e5 g => by subst e1 e2 e3 e4 e5; exact b_end_text T TX TO TP TZ TE g d_is_end x_InvalidText) hB
theorem ok_end_text (T : Tx fa fn K mg bs) (TX : exAll rows owns tys K = true) (TO : ownB ocl K = true) (TP : PgAll K) (TZ : Tz K mg bs) (TE : exmB rows hcls K = true) (d_is_end : DefOk P w K mg bs "is_end" 2 ["value"] F_is_end) (x_InvalidText : ExcK P w K mg bs "InvalidText" 1 1 [] ["line"] (fun ws _ => ws)) : DefOk P w K mg bs "end_text" 3 ["end"] F_end_text :=
  (kok_end_text T TX TO TP TZ TE d_is_end x_InvalidText fun fd F => bdg_pos F fun _ _ _ _ _ _ us hl => match us, hl with | [_], _ => rfl).pos
theorem dk_end_text_0_end (T : Tx fa fn K mg bs) (TX : exAll rows owns tys K = true) (TO : ownB ocl K = true) (TP : PgAll K) (TZ : Tz K mg bs) (TE : exmB rows hcls K = true) (d_is_end : DefOk P w K mg bs "is_end" 2 ["value"] F_is_end) (x_InvalidText : ExcK P w K mg bs "InvalidText" 1 1 [] ["line"] (fun ws _ => ws)) : DefKw P w K mg bs "end_text" 3 ["end"] F_end_text 0 ["end"] (fun ws us => byIx [0] (ws ++ us)) :=
  kok_end_text T TX TO TP TZ TE d_is_end x_InvalidText fun fd F => bdg_kw F 0 ["end"] [0] (fun _ _ _ _ _ _ us ws h1 h2 => match us, ws, h1, h2 with | [], [_], _, _ => rfl) (fun us ws h1 h2 => match us, ws, h1, h2 with | [], [_], _, _ => rfl)
end
def N_lam_3 : List Str := ["_law_thing"]
def m_lam_3 : EM := mDef 1 0 (fun ws _ => ws) F_end_text (mCons (mVar 0) (mNil)) mNil
def F_lam_3 : FM := mLam N_lam_3 m_lam_3
abbrev sc_lam_3 : Scope := (Lams.of 3).scope
theorem b_lam_3 {X : Cx} (T : Tx fa fn X.K X.mg X.base) (TX : exAll rows owns tys X.K = true) (TO : ownB ocl X.K = true) (TP : PgAll X.K) (TZ : Tz X.K X.mg X.base) (TE : exmB rows hcls X.K = true) (g : Good X N_lam_3 sc_lam_3 3 (fun _ => false)) (d_end_text : DefOk X.prog X.w X.K X.mg X.base "end_text" 3 ["end"] F_end_text) : SE X (Lams.of 3).body m_lam_3 := by
  exact (g.callP d_end_text rfl (by kernel_rfl) (T.glo 3 rfl) (sa_cons (g.v 0 (by kernel_rfl)) sa_nil))
theorem ok_lam_3 {P : Program} {w : World} {K : PySem.W.Frag} {mg : Str → Option Value} {bs : Heap} (T : Tx fa fn K mg bs) (TX : exAll rows owns tys K = true) (TO : ownB ocl K = true) (TP : PgAll K) (TZ : Tz K mg bs) (TE : exmB rows hcls K = true) (d_end_text : DefOk P w K mg bs "end_text" 3 ["end"] F_end_text) : LmD P w K mg bs 4 3 0 F_lam_3 :=
  lmd_of (N := N_lam_3) (ps := []) (i := 3) (NdefX.nscope_by (by kernel_rfl)) T.sm ⟨rfl, by decide, by decide⟩ (fun cl c pm ctv us hl => match us, hl with | [], _ => rfl) (fun X e1 e2 e3 e4 e5 g => by subst e1 e2 e3 e4 e5; exact b_lam_3 T TX TO TP TZ TE g d_end_text)
def N_lam_4 : List Str := ["_law_thing"]
def m_lam_4 : EM := mDef 0 1 (fun ws us => byIx [0] (ws ++ us)) F_end_text mNil (mCons (mVar 0) (mNil))
def F_lam_4 : FM := mLam N_lam_4 m_lam_4
abbrev sc_lam_4 : Scope := (Lams.of 4).scope
theorem b_lam_4 {X : Cx} (T : Tx fa fn X.K X.mg X.base) (TX : exAll rows owns tys X.K = true) (TO : ownB ocl X.K = true) (TP : PgAll X.K) (TZ : Tz X.K X.mg X.base) (TE : exmB rows hcls X.K = true) (g : Good X N_lam_4 sc_lam_4 3 (fun _ => false)) (d_end_text : DefOk X.prog X.w X.K X.mg X.base "end_text" 3 ["end"] F_end_text) (dk_end_text_0_end : DefKw X.prog X.w X.K X.mg X.base "end_text" 3 ["end"] F_end_text 0 ["end"] (fun ws us => byIx [0] (ws ++ us))) : SE X (Lams.of 4).body m_lam_4 := by
  exact (g.callN0 dk_end_text_0_end rfl (by kernel_rfl) (T.glo 3 rfl) (sk_cons (g.v 0 (by kernel_rfl)) sk_nil))
theorem ok_lam_4 {P : Program} {w : World} {K : PySem.W.Frag} {mg : Str → Option Value} {bs : Heap} (T : Tx fa fn K mg bs) (TX : exAll rows owns tys K = true) (TO : ownB ocl K = true) (TP : PgAll K) (TZ : Tz K mg bs) (TE : exmB rows hcls K = true) (d_end_text : DefOk P w K mg bs "end_text" 3 ["end"] F_end_text) (dk_end_text_0_end : DefKw P w K mg bs "end_text" 3 ["end"] F_end_text 0 ["end"] (fun ws us => byIx [0] (ws ++ us))) : LmD P w K mg bs 4 4 0 F_lam_4 :=
  lmd_of (N := N_lam_4) (ps := []) (i := 4) (NdefX.nscope_by (by kernel_rfl)) T.sm ⟨rfl, by decide, by decide⟩ (fun cl c pm ctv us hl => match us, hl with | [], _ => rfl) (fun X e1 e2 e3 e4 e5 g => by subst e1 e2 e3 e4 e5; exact b_lam_4 T TX TO TP TZ TE g d_end_text dk_end_text_0_end)
def t__law_heard__law_deed : Nat → Option (Nat × FM)
  | 0 => some (0, F_lam_0)
  | 1 => some (0, F_lam_1)
  | 2 => some (0, F_lam_2)
  | 3 => some (0, F_lam_3)
  | 4 => some (0, F_lam_4)
  | _ => none
theorem h__law_heard__law_deed {P : Program} {w : World} {K : PySem.W.Frag} {mg : Str → Option Value} {bs : Heap} (dl_0 : LmD P w K mg bs 5 0 0 F_lam_0) (dl_1 : LmD P w K mg bs 5 1 0 F_lam_1) (dl_2 : LmD P w K mg bs 5 2 0 F_lam_2) (dl_3 : LmD P w K mg bs 4 3 0 F_lam_3) (dl_4 : LmD P w K mg bs 4 4 0 F_lam_4) : ∀ id n F, t__law_heard__law_deed id = some (n, F) → LmD P w K mg bs 5 id n F := fun id n F h => by
  unfold t__law_heard__law_deed at h
  split at h
  · cases h; exact dl_0.mono (by decide)
  · cases h; exact dl_1.mono (by decide)
  · cases h; exact dl_2.mono (by decide)
  · cases h; exact dl_3.mono (by decide)
  · cases h; exact dl_4.mono (by decide)
  · cases h
abbrev sc__law_heard : Scope := defScope (top 24)
def N__law_heard : List Str := ["_law_deed", "_law_found", "e"]
theorem S__law_heard : FnScope N__law_heard ["_law_deed"] sc__law_heard := ⟨rfl, rfl, rfl, by decide +kernel, rfl, by decide +kernel, by decide +kernel⟩

def m__law_heard : SM := sSeq (sSet 1 (mLst (mCons (mC (.str "none")) (mCons (mC (.int 0)) (mNil)))))
  (sSeq (sTry rows [⟨"InvalidText", (some 2), 1, xLst (xCons (xC (.str "text")) (xCons (xAt rows "line") (xNil)))⟩] (sSet 1 (mLst (mCons (mC (.str "told")) (mCons (mCallV0 0 t__law_heard__law_deed) (mNil))))))
  (sRet (mVar 1)))
def F__law_heard : FM := mFn N__law_heard m__law_heard
theorem b__law_heard {X : Cx} (T : Tx fa fn X.K X.mg X.base) (TX : exAll rows owns tys X.K = true) (TO : ownB ocl X.K = true) (TP : PgAll X.K) (TZ : Tz X.K X.mg X.base) (TE : exmB rows hcls X.K = true) (gF : GoodF X N__law_heard sc__law_heard 5) (dl_0 : LmD X.prog X.w X.K X.mg X.base 5 0 0 F_lam_0) (dl_1 : LmD X.prog X.w X.K X.mg X.base 5 1 0 F_lam_1) (dl_2 : LmD X.prog X.w X.K X.mg X.base 5 2 0 F_lam_2) (dl_3 : LmD X.prog X.w X.K X.mg X.base 4 3 0 F_lam_3) (dl_4 : LmD X.prog X.w X.K X.mg X.base 4 4 0 F_lam_4) : SSs X (defBody (top 24)) m__law_heard := by
  have g := gF.toGood
  exact (sss_cons (g.set 1 (se_lst (sa_cons se_str (sa_cons se_int sa_nil))) (by kernel_rfl) (by kernel_rfl) (.inl rfl) (fun _ => rfl))
  (sss_cons (ss_tryG gF TE (g.hdA 2 (by kernel_rfl) (T.glo 18 rfl) (by kernel_rfl) (by kernel_rfl) (g.suS 1 (sex_lst (sexs_cons sex_str (sexs_cons (g.xat 2 TX (by kernel_rfl)) sexs_nil)) (len_lim (xCons_len (xCons_len xNil_len)))) (by kernel_rfl) (by kernel_rfl) (.inl rfl) (fun _ => rfl)) .nil) (by decide +kernel) (fun _ _ g7 => (sss_one (g7.set 1 (se_lst (sa_cons se_str (sa_cons (g7.callV0 0 (h__law_heard__law_deed dl_0 dl_1 dl_2 dl_3 dl_4) (by kernel_rfl) (by kernel_rfl)) sa_nil))) (by kernel_rfl) (by kernel_rfl) (.inl rfl) (fun _ => rfl)))))
  (sss_one (ss_ret (g.v 1 (by kernel_rfl))))))
section
variable {P : Program} {w : World} {K : PySem.W.Frag} {mg : Str → Option Value} {bs : Heap}
theorem kok__law_heard (T : Tx fa fn K mg bs) (TX : exAll rows owns tys K = true) (TO : ownB ocl K = true) (TP : PgAll K) (TZ : Tz K mg bs) (TE : exmB rows hcls K = true) (dl_0 : LmD P w K mg bs 5 0 0 F_lam_0) (dl_1 : LmD P w K mg bs 5 1 0 F_lam_1) (dl_2 : LmD P w K mg bs 5 2 0 F_lam_2) (dl_3 : LmD P w K mg bs 4 3 0 F_lam_3) (dl_4 : LmD P w K mg bs 4 4 0 F_lam_4) {n : Nat} {ks : List Str} {gW : List W → List W → List W} (hB : ∀ fd, FunD K "_law_heard" "_law_heard" (defArgs (top 24)) (defBody (top 24)) sc__law_heard [] [] (He.ga K "_law_heard") fd → Bdg K fd ["_law_deed"] n ks gW) : DefKw P w K mg bs "_law_heard" 6 ["_law_deed"] F__law_heard n ks gW :=
  defOk_of (T.says.def_ 13 rfl) S__law_heard T.sm ⟨rfl, by decide, by decide⟩ (fun X e1 e2 e3 e4 e5 g => by subst e1 e2 e3 e4 e5; exact b__law_heard T TX TO TP TZ TE g dl_0 dl_1 dl_2 dl_3 dl_4) hB
theorem ok__law_heard (T : Tx fa fn K mg bs) (TX : exAll rows owns tys K = true) (TO : ownB ocl K = true) (TP : PgAll K) (TZ : Tz K mg bs) (TE : exmB rows hcls K = true) (dl_0 : LmD P w K mg bs 5 0 0 F_lam_0) (dl_1 : LmD P w K mg bs 5 1 0 F_lam_1) (dl_2 : LmD P w K mg bs 5 2 0 F_lam_2) (dl_3 : LmD P w K mg bs 4 3 0 F_lam_3) (dl_4 : LmD P w K mg bs 4 4 0 F_lam_4) : DefOk P w K mg bs "_law_heard" 6 ["_law_deed"] F__law_heard :=
  (kok__law_heard T TX TO TP TZ TE dl_0 dl_1 dl_2 dl_3 dl_4 fun fd F => bdg_pos F fun _ _ _ _ _ _ us hl => match us, hl with | [_], _ => rfl).pos
end
abbrev sc__law_right : Scope := defScope (top 26)
def N__law_right : List Str := ["_law_pot_here", "_law_word_here", "_law_side", "_law_line", "_law_due", "_law_thing", "_law_ends"]
theorem S__law_right : FnScope N__law_right ["_law_pot_here"] sc__law_right := ⟨rfl, rfl, rfl, by decide +kernel, rfl, by decide +kernel, by decide +kernel⟩
def l__law_right_0 : SM := sSeq (sSet 4 (mDef 1 0 (fun ws _ => ws) F__law_read (mCons (mVar 3) (mNil)) mNil))
  (sSeq (sSet 4 (mIf (mTest (mOp fIs (mVar 4) (mC .non))) (mLst (mCons (mC (.str "text")) (mCons (mC (.int 1)) (mNil)))) (mLst (mCons (mC (.str "told")) (mCons (mVar 4) (mNil))))))
  (sSeq (sIf (mTest (mOp fNe (mDefC 1 (fun ws _ => ws) F__law_heard (cLam 0 [3] (cNil))) (mVar 4))) (sRet (mC (.bl false))) (sNil))
  (sIf (mTest (mOp fNe (mDefC 1 (fun ws _ => ws) F__law_heard (cLam 1 [3] (cNil))) (mVar 4))) (sRet (mC (.bl false))) (sNil))))
def l__law_right_1 : SM := sIf (mTest (mOp fNe (mDefC 1 (fun ws _ => ws) F__law_heard (cLam 2 [5] (cNil))) (mLst (mCons (mC (.str "text")) (mCons (mC .non) (mNil)))))) (sRet (mC (.bl false))) (sNil)
def l__law_right_2 : SM := sSeq (sSet 4 (mIf (mTest (mDef 1 0 (fun ws _ => ws) F__law_is_end (mCons (mVar 5) (mNil)) mNil)) (mLst (mCons (mC (.str "told")) (mCons (mOp fAdd (mOp fAdd (mOp fIx (mVar 5) (mC (.int 0))) (mC (.str "."))) (mOp fIx (mVar 5) (mC (.int 1)))) (mNil)))) (mLst (mCons (mC (.str "text")) (mCons (mC .non) (mNil))))))
  (sSeq (sIf (mTest (mOp fNe (mDefC 1 (fun ws _ => ws) F__law_heard (cLam 3 [5] (cNil))) (mVar 4))) (sRet (mC (.bl false))) (sNil))
  (sIf (mTest (mOp fNe (mDefC 1 (fun ws _ => ws) F__law_heard (cLam 4 [5] (cNil))) (mVar 4))) (sRet (mC (.bl false))) (sNil)))
def m__law_right : SM := sSeq (sPar 1 2 (mCons (mDef 1 0 (fun ws _ => ws) F__law_word (mCons (mVar 0) (mNil)) mNil) (mCons (mDef 2 0 (fun ws _ => ws) F__law_pick (mCons (mVar 0) (mCons (mLst (mCons (mC (.str "begin")) (mCons (mC (.str "end")) (mNil)))) (mNil))) mNil) (mNil))))
  (sSeq (sFor (iAny (mDef 3 0 (fun ws _ => ws) F__law_texts (mCons (mVar 0) (mCons (mVar 1) (mCons (mVar 2) (mNil)))) mNil)) (gSet 3) l__law_right_0)
  (sSeq (sFor (iAny (mLst (mCons (mC .non) (mCons (mC (.int 5)) (mCons (mC (.bl true)) (mCons (mTup (mCons (mVar 1) (mCons (mVar 2) (mNil)))) (mCons (mLst (mCons (mVar 1) (mCons (mVar 2) (mNil)))) (mCons (mC (.dct [])) (mCons (mTup (mCons (mC (.str "a")) (mCons (mC (.str "end")) (mNil)))) (mCons (mTup (mNil)) (mNil))))))))))) (gSet 5) l__law_right_1)
  (sSeq (sSet 6 (mLst (mCons (mTup (mCons (mVar 1) (mCons (mVar 2) (mNil)))) (mCons (mTup (mCons (mVar 2) (mCons (mVar 2) (mNil)))) (mCons (mTup (mCons (mVar 1) (mCons (mC (.str "End")) (mNil)))) (mCons (mLst (mCons (mVar 1) (mCons (mVar 2) (mNil)))) (mCons (mTup (mCons (mVar 1) (mNil))) (mCons (mOp fAdd (mOp fAdd (mVar 1) (mC (.str "."))) (mVar 2)) (mCons (mC .non) (mCons (mC (.int 0)) (mCons (mTup (mCons (mC (.str "")) (mCons (mVar 2) (mNil)))) (mNil))))))))))))
  (sSeq (sFor (iAny (mVar 6)) (gSet 5) l__law_right_2)
  (sRet (mC (.bl true)))))))
def F__law_right : FM := mFn N__law_right m__law_right
theorem b__law_right {X : Cx} (T : Tx fa fn X.K X.mg X.base) (TX : exAll rows owns tys X.K = true) (TO : ownB ocl X.K = true) (TP : PgAll X.K) (TZ : Tz X.K X.mg X.base) (TE : exmB rows hcls X.K = true) (gF : GoodF X N__law_right sc__law_right 6) (DL : InDef X "_law_right" "_law_right.<locals>.<lambda>") (d__law_pick : DefOk X.prog X.w X.K X.mg X.base "_law_pick" 2 ["_law_pot_here", "_law_some"] F__law_pick) (d__law_word : DefOk X.prog X.w X.K X.mg X.base "_law_word" 3 ["_law_pot_here"] F__law_word) (d__law_texts : DefOk X.prog X.w X.K X.mg X.base "_law_texts" 2 ["_law_pot_here", "_law_word_here", "_law_side"] F__law_texts) (d__law_read : DefOk X.prog X.w X.K X.mg X.base "_law_read" 3 ["_law_line"] F__law_read) (d__law_heard : DefOk X.prog X.w X.K X.mg X.base "_law_heard" 6 ["_law_deed"] F__law_heard) (d__law_is_end : DefOk X.prog X.w X.K X.mg X.base "_law_is_end" 2 ["_law_thing"] F__law_is_end) : SSs X (defBody (top 26)) m__law_right := by
  have g := gF.toGood
  exact (sss_cons (g.par 1 2 (sa_cons (g.callP d__law_word rfl (by kernel_rfl) (T.glo 9 rfl) (sa_cons (g.v 0 (by kernel_rfl)) sa_nil)) (sa_cons (g.callP d__law_pick rfl (by kernel_rfl) (T.glo 8 rfl) (sa_cons (g.v 0 (by kernel_rfl)) (sa_cons (se_lst (sa_cons se_str (sa_cons se_str sa_nil))) sa_nil))) sa_nil)) (by kernel_rfl) (by kernel_rfl) (by decide) (by kernel_rfl) (by kernel_rfl) (fun _ => by kernel_rfl) (fun _ => rfl))
  (sss_cons (ss_for gF.pass g.calm (si_any (g.callP d__law_texts rfl (by kernel_rfl) (T.glo 14 rfl) (sa_cons (g.v 0 (by kernel_rfl)) (sa_cons (g.v 1 (by kernel_rfl)) (sa_cons (g.v 2 (by kernel_rfl)) sa_nil))))) (g.tg 3 (by kernel_rfl) (by kernel_rfl) (.inl rfl)) (sss_cons (g.set 4 (g.callP d__law_read rfl (by kernel_rfl) (T.glo 12 rfl) (sa_cons (g.v 3 (by kernel_rfl)) sa_nil)) (by kernel_rfl) (by kernel_rfl) (.inl rfl) (fun _ => rfl))
  (sss_cons (g.set 4 (se_if (st_cmp od_is ops_dd (g.v 4 (by kernel_rfl)) se_non (nomark _)) (se_lst (sa_cons se_str (sa_cons se_int sa_nil))) (se_lst (sa_cons se_str (sa_cons (g.v 4 (by kernel_rfl)) sa_nil)))) (by kernel_rfl) (by kernel_rfl) (.inl rfl) (fun _ => rfl))
  (sss_cons (ss_if (st_cmp (od_ne g.rm) ops_dd (g.callC d__law_heard DL.far (by kernel_rfl) (by kernel_rfl) (T.glo 13 rfl) (sac_lam (js := [3]) (DL.lam (i := 0) g.sc rfl (fun _ => rfl) (by kernel_rfl)) (by rw [g.N]; rfl) (NdefX.ndef_fr (sc := sc__law_right) (by kernel_rfl)) rfl sac_nil)) (g.v 4 (by kernel_rfl)) (nomark _)) (sss_one (ss_ret se_bl)) sss_nil)
  (sss_one (ss_if (st_cmp (od_ne g.rm) ops_dd (g.callC d__law_heard DL.far (by kernel_rfl) (by kernel_rfl) (T.glo 13 rfl) (sac_lam (js := [3]) (DL.lam (i := 1) g.sc rfl (fun _ => rfl) (by kernel_rfl)) (by rw [g.N]; rfl) (NdefX.ndef_fr (sc := sc__law_right) (by kernel_rfl)) rfl sac_nil)) (g.v 4 (by kernel_rfl)) (nomark _)) (sss_one (ss_ret se_bl)) sss_nil))))) (fun _ => rfl))
  (sss_cons (ss_for gF.pass g.calm (si_any (se_lst (sa_cons se_non (sa_cons se_int (sa_cons se_bl (sa_cons (se_tup (sa_cons (g.v 1 (by kernel_rfl)) (sa_cons (g.v 2 (by kernel_rfl)) sa_nil))) (sa_cons (se_lst (sa_cons (g.v 1 (by kernel_rfl)) (sa_cons (g.v 2 (by kernel_rfl)) sa_nil))) (sa_cons se_dct0 (sa_cons (se_tup (sa_cons se_str (sa_cons se_str sa_nil))) (sa_cons (se_tup sa_nil) sa_nil)))))))))) (g.tg 5 (by kernel_rfl) (by kernel_rfl) (.inl rfl)) (sss_one (ss_if (st_cmp (od_ne g.rm) ops_dd (g.callC d__law_heard DL.far (by kernel_rfl) (by kernel_rfl) (T.glo 13 rfl) (sac_lam (js := [5]) (DL.lam (i := 2) g.sc rfl (fun _ => rfl) (by kernel_rfl)) (by rw [g.N]; rfl) (NdefX.ndef_fr (sc := sc__law_right) (by kernel_rfl)) rfl sac_nil)) (se_lst (sa_cons se_str (sa_cons se_non sa_nil))) (nomark _)) (sss_one (ss_ret se_bl)) sss_nil)) (fun _ => rfl))
  (sss_cons (g.set 6 (se_lst (sa_cons (se_tup (sa_cons (g.v 1 (by kernel_rfl)) (sa_cons (g.v 2 (by kernel_rfl)) sa_nil))) (sa_cons (se_tup (sa_cons (g.v 2 (by kernel_rfl)) (sa_cons (g.v 2 (by kernel_rfl)) sa_nil))) (sa_cons (se_tup (sa_cons (g.v 1 (by kernel_rfl)) (sa_cons se_str sa_nil))) (sa_cons (se_lst (sa_cons (g.v 1 (by kernel_rfl)) (sa_cons (g.v 2 (by kernel_rfl)) sa_nil))) (sa_cons (se_tup (sa_cons (g.v 1 (by kernel_rfl)) sa_nil)) (sa_cons (se_op od_add ops_dd (se_op od_add ops_dd (g.v 1 (by kernel_rfl)) se_str) (g.v 2 (by kernel_rfl))) (sa_cons se_non (sa_cons se_int (sa_cons (se_tup (sa_cons se_str (sa_cons (g.v 2 (by kernel_rfl)) sa_nil))) sa_nil)))))))))) (by kernel_rfl) (by kernel_rfl) (.inl rfl) (fun _ => rfl))
  (sss_cons (ss_for gF.pass g.calm (si_any (g.v 6 (by kernel_rfl))) (g.tg 5 (by kernel_rfl) (by kernel_rfl) (.inl rfl)) (sss_cons (g.set 4 (se_if (st_val (g.callP d__law_is_end rfl (by kernel_rfl) (T.glo 11 rfl) (sa_cons (g.v 5 (by kernel_rfl)) sa_nil))) (se_lst (sa_cons se_str (sa_cons (se_op od_add ops_dd (se_op od_add ops_dd (se_ix (od_ix g.rm) ops_dd (g.v 5 (by kernel_rfl)) se_int (fun _ _ => rfl)) se_str) (se_ix (od_ix g.rm) ops_dd (g.v 5 (by kernel_rfl)) se_int (fun _ _ => rfl))) sa_nil))) (se_lst (sa_cons se_str (sa_cons se_non sa_nil)))) (by kernel_rfl) (by kernel_rfl) (.inl rfl) (fun _ => rfl))
  (sss_cons (ss_if (st_cmp (od_ne g.rm) ops_dd (g.callC d__law_heard DL.far (by kernel_rfl) (by kernel_rfl) (T.glo 13 rfl) (sac_lam (js := [5]) (DL.lam (i := 3) g.sc rfl (fun _ => rfl) (by kernel_rfl)) (by rw [g.N]; rfl) (NdefX.ndef_fr (sc := sc__law_right) (by kernel_rfl)) rfl sac_nil)) (g.v 4 (by kernel_rfl)) (nomark _)) (sss_one (ss_ret se_bl)) sss_nil)
  (sss_one (ss_if (st_cmp (od_ne g.rm) ops_dd (g.callC d__law_heard DL.far (by kernel_rfl) (by kernel_rfl) (T.glo 13 rfl) (sac_lam (js := [5]) (DL.lam (i := 4) g.sc rfl (fun _ => rfl) (by kernel_rfl)) (by rw [g.N]; rfl) (NdefX.ndef_fr (sc := sc__law_right) (by kernel_rfl)) rfl sac_nil)) (g.v 4 (by kernel_rfl)) (nomark _)) (sss_one (ss_ret se_bl)) sss_nil)))) (fun _ => rfl))
  (sss_one (ss_ret se_bl)))))))
section
variable {P : Program} {w : World} {K : PySem.W.Frag} {mg : Str → Option Value} {bs : Heap}
theorem kok__law_right (T : Tx fa fn K mg bs) (TX : exAll rows owns tys K = true) (TO : ownB ocl K = true) (TP : PgAll K) (TZ : Tz K mg bs) (TE : exmB rows hcls K = true) (d__law_pick : DefOk P w K mg bs "_law_pick" 2 ["_law_pot_here", "_law_some"] F__law_pick) (d__law_word : DefOk P w K mg bs "_law_word" 3 ["_law_pot_here"] F__law_word) (d__law_texts : DefOk P w K mg bs "_law_texts" 2 ["_law_pot_here", "_law_word_here", "_law_side"] F__law_texts) (d__law_read : DefOk P w K mg bs "_law_read" 3 ["_law_line"] F__law_read) (d__law_heard : DefOk P w K mg bs "_law_heard" 6 ["_law_deed"] F__law_heard) (d__law_is_end : DefOk P w K mg bs "_law_is_end" 2 ["_law_thing"] F__law_is_end) {n : Nat} {ks : List Str} {gW : List W → List W → List W} (hB : ∀ fd, FunD K "_law_right" "_law_right" (defArgs (top 26)) (defBody (top 26)) sc__law_right [] [] (He.ga K "_law_right") fd → Bdg K fd ["_law_pot_here"] n ks gW) : DefKw P w K mg bs "_law_right" 7 ["_law_pot_here"] F__law_right n ks gW :=
  defOkL_of (q := "_law_right.<locals>.<lambda>") (T.says.def_ 15 rfl) S__law_right TZ (by decide +kernel) (by kernel_rfl) ⟨rfl, by decide, by decide⟩ (fun X e1 e2 e3 e4 e5 g DL => by subst e1 e2 e3 e4 e5; exact b__law_right T TX TO TP TZ TE g DL d__law_pick d__law_word d__law_texts d__law_read d__law_heard d__law_is_end) hB
theorem ok__law_right (T : Tx fa fn K mg bs) (TX : exAll rows owns tys K = true) (TO : ownB ocl K = true) (TP : PgAll K) (TZ : Tz K mg bs) (TE : exmB rows hcls K = true) (d__law_pick : DefOk P w K mg bs "_law_pick" 2 ["_law_pot_here", "_law_some"] F__law_pick) (d__law_word : DefOk P w K mg bs "_law_word" 3 ["_law_pot_here"] F__law_word) (d__law_texts : DefOk P w K mg bs "_law_texts" 2 ["_law_pot_here", "_law_word_here", "_law_side"] F__law_texts) (d__law_read : DefOk P w K mg bs "_law_read" 3 ["_law_line"] F__law_read) (d__law_heard : DefOk P w K mg bs "_law_heard" 6 ["_law_deed"] F__law_heard) (d__law_is_end : DefOk P w K mg bs "_law_is_end" 2 ["_law_thing"] F__law_is_end) : DefOk P w K mg bs "_law_right" 7 ["_law_pot_here"] F__law_right :=
  (kok__law_right T TX TO TP TZ TE d__law_pick d__law_word d__law_texts d__law_read d__law_heard d__law_is_end fun fd F => bdg_pos F fun _ _ _ _ _ _ us hl => match us, hl with | [_], _ => rfl).pos
end
abbrev sc__law_pot : Scope := defScope (top 17)
def N__law_pot : List Str := ["_law_script", "_law_at", "_law_cell"]
theorem S__law_pot : FnScope N__law_pot ["_law_script", "_law_at"] sc__law_pot := ⟨rfl, rfl, rfl, by decide +kernel, rfl, by decide +kernel, by decide +kernel⟩

def m__law_pot : SM := sSeq (sSet 2 (mOp fAdd (mOp fMul (mC (.int 29)) (mVar 1)) (mC (.int 19))))
  (sSeq (sIf (mTest (mOp fLt (mVar 1) (mCa fLen (mCons (mVar 0) (mNil))))) (sSet 2 (mCa fAbs (mCons (mOp fIx (mVar 0) (mVar 1)) (mNil)))) (sNil))
  (sRet (mLstH (mCons (mCa fMaxA (mCons (mC (.int 0)) (mCons (mOp fSub (mVar 2) (mOp fPow (mC (.int 10)) (mC (.int 18)))) (mNil)))) (mCons (mOp fAdd (mOp fMod (mOp fMul (mCa fInt (mCons (mOp fAdd (mOp fMod (mCa fInt (mCons (mVar 2) (mNil))) (mC (.int 2147483549))) (mC (.int 23))) (mNil))) (mOp fPow (mOp fAdd (mOp fMul (mC (.int 2)) (mVar 1)) (mC (.int 9))) (mC (.int 3)))) (mC (.int 2147483477))) (mC (.int 1))) (mNil))))))
def F__law_pot : FM := mFn N__law_pot m__law_pot
theorem b__law_pot {X : Cx} (T : Tx fa fn X.K X.mg X.base) (TX : exAll rows owns tys X.K = true) (TO : ownB ocl X.K = true) (TP : PgAll X.K) (TZ : Tz X.K X.mg X.base) (TE : exmB rows hcls X.K = true) (gF : GoodF X N__law_pot sc__law_pot 0) : SSs X (defBody (top 17)) m__law_pot := by
  have g := gF.toGood
  exact (sss_cons (g.set 2 (se_op od_add ops_dd (se_op od_mul ops_dd se_int (g.v 1 (by kernel_rfl))) se_int) (by kernel_rfl) (by kernel_rfl) (.inl rfl) (fun _ => rfl))
  (sss_cons (ss_if (st_cmp od_lt ops_dd (g.v 1 (by kernel_rfl)) (se_callB cd_len cas_dd (g.gl (by kernel_rfl)) (T.free 30 rfl) bt_len (sa_cons (g.v 0 (by kernel_rfl)) sa_nil)) (nomark _)) (sss_one (g.set 2 (se_callB cd_abs cas_dd (g.gl (by kernel_rfl)) (T.free 25 rfl) bt_abs (sa_cons (se_ix (od_ix g.rm) ops_dd (g.v 0 (by kernel_rfl)) (g.v 1 (by kernel_rfl)) (fun _ _ => rfl)) sa_nil)) (by kernel_rfl) (by kernel_rfl) (.inl rfl) (fun _ => rfl))) sss_nil)
  (sss_one (ss_ret (se_lstH (sa_cons (se_callB (cd_maxA g.rm) cas_dd (g.gl (by kernel_rfl)) (T.free 31 rfl) bt_max (sa_cons se_int (sa_cons (se_op od_sub ops_dd (g.v 2 (by kernel_rfl)) (se_op od_pow ops_dd se_int se_int)) sa_nil))) (sa_cons (se_op od_add ops_dd (se_op od_mod ops_dd (se_op od_mul ops_dd (se_callTy cd_int cas_dd (g.gl (by kernel_rfl)) (T.free 28 rfl) bt_int (sa_cons (se_op od_add ops_dd (se_op od_mod ops_dd (se_callTy cd_int cas_dd (g.gl (by kernel_rfl)) (T.free 28 rfl) bt_int (sa_cons (g.v 2 (by kernel_rfl)) sa_nil)) se_int) se_int) sa_nil)) (se_op od_pow ops_dd (se_op od_add ops_dd (se_op od_mul ops_dd se_int (g.v 1 (by kernel_rfl))) se_int) se_int)) se_int) se_int) sa_nil)))))))
section
variable {P : Program} {w : World} {K : PySem.W.Frag} {mg : Str → Option Value} {bs : Heap}
theorem kok__law_pot (T : Tx fa fn K mg bs) (TX : exAll rows owns tys K = true) (TO : ownB ocl K = true) (TP : PgAll K) (TZ : Tz K mg bs) (TE : exmB rows hcls K = true) {n : Nat} {ks : List Str} {gW : List W → List W → List W} (hB : ∀ fd, FunD K "_law_pot" "_law_pot" (defArgs (top 17)) (defBody (top 17)) sc__law_pot [] [] (He.ga K "_law_pot") fd → Bdg K fd ["_law_script", "_law_at"] n ks gW) : DefKw P w K mg bs "_law_pot" 1 ["_law_script", "_law_at"] F__law_pot n ks gW :=
  defOk_of (T.says.def_ 6 rfl) S__law_pot T.sm ⟨rfl, by decide, by decide⟩ (fun X e1 e2 e3 e4 e5 g => by subst e1 e2 e3 e4 e5; exact b__law_pot T TX TO TP TZ TE g ) hB
theorem ok__law_pot (T : Tx fa fn K mg bs) (TX : exAll rows owns tys K = true) (TO : ownB ocl K = true) (TP : PgAll K) (TZ : Tz K mg bs) (TE : exmB rows hcls K = true) : DefOk P w K mg bs "_law_pot" 1 ["_law_script", "_law_at"] F__law_pot :=
  (kok__law_pot T TX TO TP TZ TE  fun fd F => bdg_pos F fun _ _ _ _ _ _ us hl => match us, hl with | [_, _], _ => rfl).pos
end
abbrev sc_law : Scope := defScope (top 27)
def N_law : List Str := ["_law_script", "_law_at"]
theorem S_law : FnScope N_law ["_law_script"] sc_law := ⟨rfl, rfl, rfl, by decide +kernel, rfl, by decide +kernel, by decide +kernel⟩

def m_law : SM := sRet (mCa fAll (mCons (mLc (iRange1 (mCa fMaxA (mCons (mC (.int 1)) (mCons (mCa fMinA (mCons (mCa fLen (mCons (mVar 0) (mNil))) (mCons (mC (.int 4)) (mNil)))) (mNil))))) (.one 1) (tYesM) (mDef 1 0 (fun ws _ => ws) F__law_right (mCons (mDef 2 0 (fun ws _ => ws) F__law_pot (mCons (mVar 0) (mCons (mVar 1) (mNil))) mNil) (mNil)) mNil) [1]) (mNil)))
def F_law : FM := mFn N_law m_law
theorem b_law {X : Cx} (T : Tx fa fn X.K X.mg X.base) (TX : exAll rows owns tys X.K = true) (TO : ownB ocl X.K = true) (TP : PgAll X.K) (TZ : Tz X.K X.mg X.base) (TE : exmB rows hcls X.K = true) (gF : GoodF X N_law sc_law 7) (d__law_right : DefOk X.prog X.w X.K X.mg X.base "_law_right" 7 ["_law_pot_here"] F__law_right) (d__law_pot : DefOk X.prog X.w X.K X.mg X.base "_law_pot" 1 ["_law_script", "_law_at"] F__law_pot) : SSs X (defBody (top 27)) m_law := by
  have g := gF.toGood
  exact (sss_one (ss_ret (se_callB (cd_all g.rm) cas_dd (g.gl (by kernel_rfl)) (T.free 26 rfl) bt_all (sa_cons (g.lc [("_law_at", 1)] (.one 1) (si_range1 (g.gl (by kernel_rfl)) (T.free 33 rfl) (se_callB (cd_maxA g.rm) cas_dd (g.gl (by kernel_rfl)) (T.free 31 rfl) bt_max (sa_cons se_int (sa_cons (se_callB (cd_minA g.rm) cas_dd (g.gl (by kernel_rfl)) (T.free 32 rfl) bt_min (sa_cons (se_callB cd_len cas_dd (g.gl (by kernel_rfl)) (T.free 30 rfl) bt_len (sa_cons (g.v 0 (by kernel_rfl)) sa_nil)) (sa_cons se_int sa_nil))) sa_nil)))) (blkOk_by (by decide +kernel)) (fun _ _ _ _ _ g1 => ⟨(g1.ct1 1 (by kernel_rfl) (by kernel_rfl) (by first | exact .inl rfl | exact .inr (by kernel_rfl))), sts_nil, (g1.callP d__law_right rfl (by kernel_rfl) (T.glo 15 rfl) (sa_cons (g1.callP d__law_pot rfl (by kernel_rfl) (T.glo 6 rfl) (sa_cons (g1.v 0 (by kernel_rfl)) (sa_cons (g1.v 1 (by kernel_rfl)) sa_nil))) sa_nil))⟩) rfl (fun _ _ => rfl)) sa_nil))))
section
variable {P : Program} {w : World} {K : PySem.W.Frag} {mg : Str → Option Value} {bs : Heap}
theorem kok_law (T : Tx fa fn K mg bs) (TX : exAll rows owns tys K = true) (TO : ownB ocl K = true) (TP : PgAll K) (TZ : Tz K mg bs) (TE : exmB rows hcls K = true) (d__law_right : DefOk P w K mg bs "_law_right" 7 ["_law_pot_here"] F__law_right) (d__law_pot : DefOk P w K mg bs "_law_pot" 1 ["_law_script", "_law_at"] F__law_pot) {n : Nat} {ks : List Str} {gW : List W → List W → List W} (hB : ∀ fd, FunD K "law" "law" (defArgs (top 27)) (defBody (top 27)) sc_law [] [] (He.ga K "law") fd → Bdg K fd ["_law_script"] n ks gW) : DefKw P w K mg bs "law" 8 ["_law_script"] F_law n ks gW :=
  defOk_of (T.says.def_ 16 rfl) S_law T.sm ⟨rfl, by decide, by decide⟩ (fun X e1 e2 e3 e4 e5 g => by subst e1 e2 e3 e4 e5; exact b_law T TX TO TP TZ TE g d__law_right d__law_pot) hB
theorem ok_law (T : Tx fa fn K mg bs) (TX : exAll rows owns tys K = true) (TO : ownB ocl K = true) (TP : PgAll K) (TZ : Tz K mg bs) (TE : exmB rows hcls K = true) (d__law_right : DefOk P w K mg bs "_law_right" 7 ["_law_pot_here"] F__law_right) (d__law_pot : DefOk P w K mg bs "_law_pot" 1 ["_law_script", "_law_at"] F__law_pot) : DefOk P w K mg bs "law" 8 ["_law_script"] F_law :=
  (kok_law T TX TO TP TZ TE d__law_right d__law_pot fun fd F => bdg_pos F fun _ _ _ _ _ _ us hl => match us, hl with | [_], _ => rfl).pos
end
theorem ok_lawG {P : Program} {w : World} {K : PySem.W.Frag} {mg : Str → Option Value} {bs : Heap} (T : Tx fa fn K mg bs) (TX : exAll rows owns tys K = true) (TO : ownB ocl K = true) (TP : PgAll K) (TZ : Tz K mg bs) (TE : exmB rows hcls K = true) {fd : FuncData} (F : FunD K "law" "law" (defArgs (top 27)) (defBody (top 27)) sc_law [] [] (He.ga K "law") fd) : FnG P w K mg bs 8 (He.ga K "law") fd ["_law_script"] (spM K 1 F_law) := by
  have x_InvalidText := x_InvalidText (P := P) (w := w) (mg := mg) (bs := bs) T TX TO TP TZ TE
  have d__law_draw := ok__law_draw (P := P) (w := w) T TX TO TP TZ TE 
  have d__law_pick := ok__law_pick (P := P) (w := w) T TX TO TP TZ TE d__law_draw
  have d__law_word := ok__law_word (P := P) (w := w) T TX TO TP TZ TE d__law_draw d__law_pick
  have d__law_texts := ok__law_texts (P := P) (w := w) T TX TO TP TZ TE d__law_draw
  have d__law_is_name := ok__law_is_name (P := P) (w := w) T TX TO TP TZ TE 
  have d__law_is_end := ok__law_is_end (P := P) (w := w) T TX TO TP TZ TE d__law_is_name
  have d__law_read := ok__law_read (P := P) (w := w) T TX TO TP TZ TE d__law_is_end
  have d_want_string := ok_want_string (P := P) (w := w) T TX TO TP TZ TE x_InvalidText
  have d_is_name := ok_is_name (P := P) (w := w) T TX TO TP TZ TE 
  have d_end_told := ok_end_told (P := P) (w := w) T TX TO TP TZ TE d_is_name
  have d_read_end := ok_read_end (P := P) (w := w) T TX TO TP TZ TE d_want_string d_end_told x_InvalidText
  have dk_read_end_0_text := dk_read_end_0_text (P := P) (w := w) T TX TO TP TZ TE d_want_string d_end_told x_InvalidText
  have dl_0 := ok_lam_0 (P := P) (w := w) T TX TO TP TZ TE d_read_end
  have dl_1 := ok_lam_1 (P := P) (w := w) T TX TO TP TZ TE d_read_end dk_read_end_0_text
  have dl_2 := ok_lam_2 (P := P) (w := w) T TX TO TP TZ TE d_read_end
  have d_is_end := ok_is_end (P := P) (w := w) T TX TO TP TZ TE d_is_name
  have d_end_text := ok_end_text (P := P) (w := w) T TX TO TP TZ TE d_is_end x_InvalidText
  have dk_end_text_0_end := dk_end_text_0_end (P := P) (w := w) T TX TO TP TZ TE d_is_end x_InvalidText
  have dl_3 := ok_lam_3 (P := P) (w := w) T TX TO TP TZ TE d_end_text
  have dl_4 := ok_lam_4 (P := P) (w := w) T TX TO TP TZ TE d_end_text dk_end_text_0_end
  have d__law_heard := ok__law_heard (P := P) (w := w) T TX TO TP TZ TE dl_0 dl_1 dl_2 dl_3 dl_4
  have d__law_right := ok__law_right (P := P) (w := w) T TX TO TP TZ TE d__law_pick d__law_word d__law_texts d__law_read d__law_heard d__law_is_end
  have d__law_pot := ok__law_pot (P := P) (w := w) T TX TO TP TZ TE 
  exact def_fnG F S_law T.sm fun X e1 e2 e3 e4 e5 g => by subst e1 e2 e3 e4 e5; exact b_law T TX TO TP TZ TE g d__law_right d__law_pot
end Lw
set_option maxHeartbeats 2000000
namespace Dm
open PySem PySem.Spec PyProof.Rows L2
variable [Lams]
theorem okS_append {x y : Str} (hx : okS x = true) (hy : okS y = true) : okS (x ++ y) = true := by
  unfold okS at *
  have : (x ++ y).cps.toList = x.cps.toList ++ y.cps.toList := by
    show (x.cps ++ y.cps).toList = _
    simp
  rw [this, List.all_append, hx, hy]
  rfl
theorem rep_str {s : Str} {r : Int} (h0 : 0 ≤ r) (h1 : r ≤ 1000) (hl : s.length ≤ 100) (ho : okS s = true) : ∃ t : Str, fMul (.str s) (.int r) = some (.str t) ∧ t.length = r.toNat * s.length ∧ okS t = true := by
  have hm : s.length * r.toNat ≤ 100 * 1000 := Nat.mul_le_mul hl (by omega)
  refine ⟨_, (fMul_str).trans (if_pos ⟨h0, by omega, by omega⟩), ?_, ?_⟩
  · show (List.replicate r.toNat s.cps.toList).flatten.toArray.size = _
    rw [List.size_toArray, List.length_flatten, List.map_replicate, List.sum_replicate_nat]
    simp [Str.length]
  · unfold okS at *
    rw [List.all_eq_true] at ho ⊢
    intro c hc
    have hc' : c ∈ (List.replicate r.toNat s.cps.toList).flatten := by simpa using hc
    obtain ⟨l, hl1, hl2⟩ := List.mem_flatten.mp hc'
    rw [(List.mem_replicate.mp hl1).2] at hl2
    exact ho c hl2
theorem okS_one {z : Str} {c : Nat} (h : okS z = true) (hc : c ∈ z.cps.toList) : okS ⟨#[c]⟩ = true := by
  have := List.all_eq_true.mp h c hc
  show ([c].all fun c => decide (c < 1114112)) = true
  simpa using this
theorem txt_join (sep : Str) (l : List Str) : Txt.join sep l = Str.join sep l := eq_of_beq (PyProof.Rows.join_plain_closes sep l)
theorem join_cps : ∀ ts : List Str, (Str.join "" ts).cps.toList = (ts.map (·.cps.toList)).flatten
  | [] => rfl
  | [x] => by simp [Str.join]
  | x :: y :: r => by
    have ih := join_cps (y :: r)
    show (x ++ "" ++ Str.join "" (y :: r)).cps.toList = _
    have e : (x ++ "" ++ Str.join "" (y :: r)).cps.toList = x.cps.toList ++ (Str.join "" (y :: r)).cps.toList := by
      show (x.cps ++ #[] ++ (Str.join "" (y :: r)).cps).toList = _
      simp
    rw [e, ih, List.map_cons, List.flatten_cons, List.map_cons, List.flatten_cons, List.map_cons, List.flatten_cons]
/-- single signs, joined -/
theorem join_signs {z : Str} (hz : okS z = true) {ds ys : List D} (h : Paired (fun _ y => ∃ c, y = D.str ⟨#[c]⟩ ∧ c ∈ z.cps.toList) ds ys) : ∃ ts : List Str, txts ys = some ts ∧ ts.length = ds.length ∧ (ts.map (·.length)).sum = ds.length ∧ okS (Txt.join "" ts) = true ∧ (Txt.join "" ts).length = ds.length := by
  have key : ∃ cs : List Nat, txts ys = some (cs.map fun c => ⟨#[c]⟩) ∧ cs.length = ds.length ∧ ∀ c ∈ cs, c ∈ z.cps.toList := by
    induction h with
    | nil => exact ⟨[], rfl, rfl, fun c hc => by cases hc⟩
    | cons h t ih =>
      obtain ⟨c, rfl, hc⟩ := h
      obtain ⟨cs, e1, e2, e3⟩ := ih
      refine ⟨c :: cs, by show (txts _).map _ = _; rw [e1]; rfl, by rw [List.length_cons, List.length_cons, e2], fun x hx => ?_⟩
      rcases List.mem_cons.mp hx with rfl | hx
      · exact hc
      · exact e3 x hx
  obtain ⟨cs, e1, e2, e3⟩ := key
  have fl : ∀ cs : List Nat, ((cs.map fun c => (⟨#[c]⟩ : Str)).map (·.cps.toList)).flatten = cs := by
    intro cs
    induction cs with
    | nil => rfl
    | cons c r ih => rw [List.map_cons, List.map_cons, List.flatten_cons, ih]; rfl
  have sm : ∀ cs : List Nat, ((cs.map fun c => (⟨#[c]⟩ : Str)).map (·.length)).sum = cs.length := by
    intro cs
    induction cs with
    | nil => rfl
    | cons c r ih =>
      rw [List.map_cons, List.map_cons, List.sum_cons, ih, List.length_cons]
      show 1 + r.length = _
      omega
  have j : (Txt.join "" (cs.map fun c => (⟨#[c]⟩ : Str))).cps.toList = cs := by rw [txt_join, join_cps, fl]
  refine ⟨_, e1, by rw [List.length_map, e2], by rw [sm, e2], ?_, ?_⟩
  · unfold okS
    rw [j, List.all_eq_true]
    exact fun c hc => List.all_eq_true.mp hz c (e3 c hc)
  · have : (Txt.join "" (cs.map fun c => (⟨#[c]⟩ : Str))).length = (Txt.join "" (cs.map fun c => (⟨#[c]⟩ : Str))).cps.toList.length := by simp [Str.length]
    rw [this, j, e2]
/-- what is plain is like itself -/
theorem fNe_self {d : D} (h : plD 60 d = true) : fNe d d = some (.bl false) := by
  unfold fNe
  rw [if_pos ⟨h, h⟩, PySem.SeqAt.eqv_refl_plain _ (plD_ok 60 d h).1]
  rfl
open TL
/-! ### the parts of a split text -/
theorem spl_le {S : List Nat} : ∀ (L : List Nat) (k : Nat) (acc : List Nat), ∀ p ∈ spl S k acc L, p.length ≤ acc.length + L.length
  | [], k, acc, p, h => by
    rw [spl_nil] at h
    have : p = acc := by simpa using h
    subst this; omega
  | c :: r, 0, acc, p, h => by
    cases e : pre S (c :: r) with
    | true =>
      rw [spl_hit e] at h
      rcases List.mem_cons.mp h with rfl | h
      · omega
      · have := spl_le r _ [] p h
        simp at this ⊢; omega
    | false =>
      rw [spl_miss e] at h
      have := spl_le r _ _ p h
      simp at this ⊢; omega
  | c :: r, k + 1, acc, p, h => by
    have h' : p ∈ spl S k acc r := h
    have := spl_le r _ _ p h'
    simp; omega
theorem split_le {x y : Str} (hy : tl y ≠ []) (hk : y.cps.all (· < 256) = true) : ∀ p ∈ Txt.split x y, p.length ≤ x.length := fun p hp => by
  have e := split_spl x y hy (kind_ok hk)
  have : tl p ∈ spl (tl y) 0 [] (tl x) := by rw [← e]; exact List.mem_map.mpr ⟨p, hp, rfl⟩
  have := spl_le _ _ _ _ this
  rw [len_tl p, len_tl x]
  simpa using this
theorem fSplit_dot {s : Str} (h : s.length < 1000000) : fSplit (.str s) [.str "."] = some (.lst ((Txt.split s ".").map .str)) := if_pos ⟨by decide, h⟩
@[simp] theorem sParT_ap {ma : AM} {gs : List W → Slots → Mem → SR} {n : Nat} {ρ : Slots} {m : Mem} : sParT ma gs n ρ m = sbd (ma ρ m) ρ fun ws m1 => if ws.length = n ∧ ws.length ≤ 1000000 then gs ws ρ m1 else none := rfl
@[simp] theorem sRaise_exc {me : EM} {ρ : Slots} {m m1 : Mem} {c : Str} {fs : List (Str × D)} (h : me ρ m = some (.ok (.dat (.exc c fs)), m1)) : sRaise me ρ m = some (.ex c fs ρ, m1) := by
  unfold sRaise; rw [h]
theorem exc1 {c f : Str} {d : D} {ρ : Slots} {m : Mem} {gW : List W → List W → List W} {ma : AM} (h : ma ρ m = some (.ok [.dat d], m)) (hg : gW [.hdl m.length, .dat d] [] = [.hdl m.length, .dat d]) : mExc c [f] 1 0 gW ma mNil ρ m = some (.ok (.dat (.exc c [(f, d)])), m) := by
  unfold mExc
  rw [h]
  show (if 1 = 1 ∧ 0 = 0 then exEnd c [f] m.length m (gW [.hdl m.length, .dat d] []) else none) = _
  rw [if_pos ⟨rfl, rfl⟩, hg]
  show (if m.length = m.length then _ else none) = _
  rw [if_pos rfl]
  rfl
@[simp] theorem mMb_ap {T : String} {f : D → List D → Option D} {mo : EM} {ma : AM} {ρ : Slots} {m : Mem} : mMb T f mo ma ρ m = bnd (mo ρ m) fun w m1 => match view m1 w with
  | some d0 => if tyD T d0 = true then bnd (ma ρ m1) fun ws m2 => (match view m2 w, views m2 ws with
    | some dx, some ds => (match f dx ds with
      | some d => rd d m2
      | none => none)
    | _, _ => none) else none
  | none => none := rfl
@[simp] theorem mJoined_ap {es : List EM} {ρ : Slots} {m : Mem} : mJoined es ρ m = bnd (mJs es Str.empty ρ m) fun y m1 => rd (.str y) m1 := rfl
@[simp] theorem mJs_nil {acc : Str} {ρ : Slots} {m : Mem} : mJs [] acc ρ m = some (.ok acc, m) := rfl
@[simp] theorem mJs_cons {e : EM} {es : List EM} {acc : Str} {ρ : Slots} {m : Mem} : mJs (e :: es) acc ρ m = bnd (e ρ m) fun w m1 => match w with
    | .dat (.str y) => if (acc ++ y).length ≤ 1000000 then mJs es (acc ++ y) ρ m1 else none
    | _ => none := rfl
@[simp] theorem fFmt_str {y : Str} : fFmt (.str y) = if y.length ≤ 1000000 then some (.str y) else none := rfl
@[simp] theorem fFmt_int {i : Int} : fFmt (.int i) = if i.natAbs.log2 < 1900 then some (.str (toString i)) else none := rfl
@[simp] theorem mSl_ap {me : EM} {ml mh : OM} {ρ : Slots} {m : Mem} : mSl me ml mh ρ m = bnd (me ρ m) fun x m1 => match ml ρ m1 with
  | some (lo, m2) => (match mh ρ m2 with
    | some (hi, m3) => (match view m3 x with
      | some dx => (match fSl dx lo hi with
        | some d => some (.ok (.dat d), m3)
        | none => none)
      | none => none)
    | none => none)
  | none => none := rfl
@[simp] theorem oNone_ap {ρ : Slots} {m : Mem} : oNone ρ m = some (none, m) := rfl
@[simp] theorem oSome_ap {me : EM} {ρ : Slots} {m : Mem} : oSome me ρ m = match me ρ m with
  | some (.ok (.dat (.int i)), m1) => some (some i, m1)
  | _ => none := rfl
@[simp] theorem fSl_lst {ds : List D} {lo hi : Option Int} : fSl (.lst ds) lo hi = some (.lst (cutD ds lo hi)) := rfl
@[simp] theorem fSl_tup {ds : List D} {lo hi : Option Int} : fSl (.tup ds) lo hi = some (.tup (cutD ds lo hi)) := rfl
@[simp] theorem fSl_str {z : Str} {lo hi : Option Int} : fSl (.str z) lo hi = if z.length ≤ 1000000 then some (.str (cutS z lo hi)) else none := rfl
/-- a function that gets lambdas and data -/
theorem defC_clo {n : Nat} {gW : List W → List W → List W} {mf : FM} {i : Nat} {js : List Nat} {cs : List Cp} {ρ : Slots} {m m' : Mem} {o : Out W} (hc : capD ρ js = some cs) (hf : mf (gW [.clo i cs] []) m = some (o, m')) (hn : n = 1) (hg : cut m.length (some (o, m')) = some (o, m')) : mDefC n gW mf (cLam i js cNil) ρ m = some (o, m') := by
  subst hn
  show (match resA ρ [.lam i js] with
    | some ws => if ws.length = 1 then cut m.length (mf (gW ws []) m) else none
    | none => none) = _
  have : resA ρ [.lam i js] = some [.clo i cs] := by
    show (match capD ρ js, resA ρ [] with
      | some ds, some ws => some (W.clo i ds :: ws)
      | _, _ => none) = _
    rw [hc]; rfl
  rw [this]
  show (if 1 = 1 then cut m.length (mf (gW [.clo i cs] []) m) else none) = _
  rw [if_pos rfl, hf, hg]
@[simp] theorem fMaxA_int {x y : Int} : fMaxA [.int x, .int y] = some (.int (if y > x then y else x)) := rfl
@[simp] theorem fMinA_int {x y : Int} : fMinA [.int x, .int y] = some (.int (if y < x then y else x)) := rfl
@[simp] theorem fTupA_lst {xs : List D} : fTupA [.lst xs] = some (.tup xs) := rfl
@[simp] theorem fTupA_tup {xs : List D} : fTupA [.tup xs] = some (.tup xs) := rfl
@[simp] theorem fListA_lst {xs : List D} : fListA [.lst xs] = some (.lst xs) := rfl
@[simp] theorem fListA_tup {xs : List D} : fListA [.tup xs] = some (.lst xs) := rfl
def potMA (u v p w r s q : Int) : SM := sSeq (sSet 2 (mOp fAdd (mOp fMul (mC (.int u)) (mVar 1)) (mC (.int v))))
  (sSeq (sIf (mTest (mOp fLt (mVar 1) (mCa fLen (mCons (mVar 0) (mNil))))) (sSet 2 (mCa fAbs (mCons (mOp fIx (mVar 0) (mVar 1)) (mNil)))) (sNil))
  (sRet (mLstH (mCons (mCa fMaxA (mCons (mC (.int 0)) (mCons (mOp fSub (mVar 2) (mOp fPow (mC (.int 10)) (mC (.int 18)))) (mNil)))) (mCons (mOp fAdd (mOp fMod (mOp fMul (mCa fInt (mCons (mOp fAdd (mOp fMod (mCa fInt (mCons (mVar 2) (mNil))) (mC (.int p))) (mC (.int w))) (mNil))) (mOp fPow (mOp fAdd (mOp fMul (mC (.int r)) (mVar 1)) (mC (.int s))) (mC (.int 3)))) (mC (.int q))) (mC (.int 1))) (mNil))))))
/-- what is made of a cell -/
theorem pot_endA {u v p w r s q P : Int} (hp : 0 < p) (hp2 : p < 2 ^ 40) (hw : 0 ≤ w) (hw2 : w < 1000) (hr : 0 ≤ r) (hr2 : r < 100) (hs : 0 ≤ s) (hs2 : s < 100) (hq : 0 < q) (hq2 : q < P) {m : Mem} {sc at_ z : Int} {x : Option W} (h0 : 0 ≤ at_) (h1 : at_ < 1000) :
    ∃ a b, sRet (mLstH (mCons (mCa fMaxA (mCons (mC (.int 0)) (mCons (mOp fSub (mVar 2) (mOp fPow (mC (.int 10)) (mC (.int 18)))) (mNil)))) (mCons (mOp fAdd (mOp fMod (mOp fMul (mCa fInt (mCons (mOp fAdd (mOp fMod (mCa fInt (mCons (mVar 2) (mNil))) (mC (.int p))) (mC (.int w))) (mNil))) (mOp fPow (mOp fAdd (mOp fMul (mC (.int r)) (mVar 1)) (mC (.int s))) (mC (.int 3)))) (mC (.int q))) (mC (.int 1))) (mNil))))
      [x, some (.dat (.int at_)), some (.dat (.int z))] m = some (.rt (.hdl m.length), m ++ [.lst [.int a, .int b]]) ∧ 0 ≤ a ∧ 0 ≤ b ∧ b < P := by
  have t1 : 0 ≤ r * at_ := Int.mul_nonneg hr h0
  have t2 : r * at_ ≤ 100 * 1000 := Int.mul_le_mul (by omega) (by omega) h0 (by omega)
  have e1 : (r * at_ + s).natAbs < 2 ^ 64 := by omega
  have e2 : 0 ≤ z % p + w := by have := Int.emod_nonneg z (show p ≠ 0 by omega); omega
  have e3 : z % p + w < 2 ^ 41 := by have := Int.emod_lt_of_pos z hp; omega
  have e4 : (z % p + w).natAbs.log2 < 41 := lg 41 e2 e3
  have e5 : ((r * at_ + s) ^ 3).natAbs.log2 < 60 := by
    refine lg 60 (Int.pow_nonneg (by omega)) ?_
    have c : r * at_ + s ≤ 2 ^ 18 := by omega
    have c0 : 0 ≤ r * at_ + s := by omega
    generalize r * at_ + s = y at c c0
    have : y ^ 3 = y * y * y := by rw [Int.pow_succ, Int.pow_succ, Int.pow_succ, Int.pow_zero, Int.one_mul]
    rw [this]
    have d1 : y * y ≤ 2 ^ 18 * 2 ^ 18 := Int.mul_le_mul c c c0 (by decide)
    have d2 : y * y * y ≤ 2 ^ 18 * 2 ^ 18 * 2 ^ 18 := Int.mul_le_mul d1 c c0 (by decide)
    have : (2 : Int) ^ 18 * 2 ^ 18 * 2 ^ 18 < 2 ^ 60 := by decide
    omega
  have e6 : (z % p + w).natAbs.log2 + ((r * at_ + s) ^ 3).natAbs.log2 < 1000000 := by omega
  have e7 := Int.emod_nonneg ((z % p + w) * (r * at_ + s) ^ 3) (show q ≠ 0 by omega)
  have e8 := Int.emod_lt_of_pos ((z % p + w) * (r * at_ + s) ^ 3) hq
  have c1 : r.natAbs.log2 < 10 := lg 10 hr (by omega)
  have c2 : at_.natAbs.log2 < 10 := lg 10 h0 (by omega)
  have c3 : r.natAbs.log2 + at_.natAbs.log2 < 1000000 := by omega
  refine ⟨(if z - 10 ^ 18 > 0 then z - 10 ^ 18 else 0), (z % p + w) * (r * at_ + s) ^ 3 % q + 1, ?_, by split <;> omega, by omega, by omega⟩
  rw [Int.natAbs_pow] at e6
  simp [e1, e6, hp, hq, c3]
theorem pot_okA {u v p w r s q P : Int} {N : List Str} (hN : N.length = 3) (hu : 0 ≤ u) (hu2 : u < 1000) (hp : 0 < p) (hp2 : p < 2 ^ 40) (hw : 0 ≤ w) (hw2 : w < 1000) (hr : 0 ≤ r) (hr2 : r < 100) (hs : 0 ≤ s) (hs2 : s < 100) (hq : 0 < q) (hq2 : q < P)
    {m : Mem} {ns : List Int} {at_ : Int} (h0 : 0 ≤ at_) (h1 : at_ < 1000) :
    ∃ a b, mFn N (potMA u v p w r s q) [.dat (.lst (ns.map .int)), .dat (.int at_)] m = some (.ok (.hdl m.length), m ++ [.lst [.int a, .int b]]) ∧ 0 ≤ a ∧ 0 ≤ b ∧ b < P := by
  have c1 : u.natAbs.log2 < 10 := lg 10 hu (by omega)
  have c2 : at_.natAbs.log2 < 10 := lg 10 h0 (by omega)
  have c3 : u.natAbs.log2 + at_.natAbs.log2 < 1000000 := by omega
  by_cases hl : at_ < (ns.length : Int)
  · obtain ⟨z, hz⟩ := atI_map h0 hl
    obtain ⟨a, b, e, q1, q2, q3⟩ := pot_endA (u := u) (v := v) (sc := 0) (x := some (.dat (.lst (ns.map .int)))) (z := if z < 0 then -z else z) (m := m) hp hp2 hw hw2 hr hr2 hs hs2 hq hq2 h0 h1
    refine ⟨a, b, ?_, q1, q2, q3⟩
    rw [mFn_ap, potMA]
    simp only [hN, List.map_cons, List.map_nil, List.length_cons, List.length_nil]
    have st : ∀ (b1 b2 : SM) (ρ ρ1 ρ2 : Slots) (m : Mem), b1 ρ m = some (.nx ρ1, m) → b2 ρ1 m = some (.nx ρ2, m) → ∀ b3, sSeq b1 (sSeq b2 b3) ρ m = b3 ρ2 m := fun b1 b2 ρ ρ1 ρ2 m h1 h2 b3 => by
      rw [sSeq_ap, h1, sThen_nx, sSeq_ap, h2, sThen_nx]
    rw [st _ _ _ [some (.dat (.lst (ns.map .int))), some (.dat (.int at_)), some (.dat (.int (u * at_ + v)))] [some (.dat (.lst (ns.map .int))), some (.dat (.int at_)), some (.dat (.int (if z < 0 then -z else z)))] m (by simp [c3]) (by simp [hl, hz]), e]
    rfl
  · obtain ⟨a, b, e, q1, q2, q3⟩ := pot_endA (u := u) (v := v) (sc := 0) (x := some (.dat (.lst (ns.map .int)))) (z := u * at_ + v) (m := m) hp hp2 hw hw2 hr hr2 hs hs2 hq hq2 h0 h1
    refine ⟨a, b, ?_, q1, q2, q3⟩
    rw [mFn_ap, potMA]
    simp only [hN, List.map_cons, List.map_nil, List.length_cons, List.length_nil]
    have st : ∀ (b1 b2 : SM) (ρ ρ1 ρ2 : Slots) (m : Mem), b1 ρ m = some (.nx ρ1, m) → b2 ρ1 m = some (.nx ρ2, m) → ∀ b3, sSeq b1 (sSeq b2 b3) ρ m = b3 ρ2 m := fun b1 b2 ρ ρ1 ρ2 m h1 h2 b3 => by
      rw [sSeq_ap, h1, sThen_nx, sSeq_ap, h2, sThen_nx]
    rw [st _ _ _ [some (.dat (.lst (ns.map .int))), some (.dat (.int at_)), some (.dat (.int (u * at_ + v)))] [some (.dat (.lst (ns.map .int))), some (.dat (.int at_)), some (.dat (.int (u * at_ + v)))] m (by simp [c3]) (by simp [hl]), e]
    rfl
end Dm
set_option maxHeartbeats 4000000
namespace Lw
open PySem PySem.Spec PyProof.Rows L2 Dm
abbrev PP : Int := 2147483587
theorem hDraw : DrawOk PP F__law_draw := fun h hn h2 => draw_ok (c1 := 48271) (c2 := 12253) (q := 2147483549) (t := 23) (N := N__law_draw) rfl (by decide +kernel) (by decide) (by decide) (by decide) (by decide) (by decide +kernel) h hn h2
theorem hPot : PotOk PP F__law_pot := fun h0 h1 => pot_okA (u := 29) (v := 19) (p := 2147483549) (w := 23) (r := 2) (s := 9) (q := 2147483477) (N := N__law_pot) rfl (by decide) (by decide) (by decide) (by decide) (by decide) (by decide) (by decide) (by decide) (by decide) (by decide) (by decide) (by decide) h0 h1
theorem dr {m : Mem} {k : Nat} (n : Int) (h : Pot PP k m) (hn : 0 < n) (h2 : n < 2 ^ 200) : ∃ r m', F__law_draw [.hdl k, .dat (.int n)] m = some (.ok (.dat (.int r)), m') ∧ 0 ≤ r ∧ r < n ∧ Pot PP k m' ∧ Bes k m m' :=
  hDraw h hn (by have := lg (i := n) 200 (by omega) h2; omega)
/-- a word: a letter, then none to six signs -/
theorem word_ok {m : Mem} {k : Nat} (h : Pot PP k m) : ∃ w m', F__law_word [.hdl k] m = some (.ok (.dat (.str w)), m') ∧ w.length ≤ 7 ∧ okS w = true ∧ Pot PP k m' ∧ Bes k m m' := by
  obtain ⟨r3, m3, e3, a3, b3, p3, s3⟩ := dr 7 h (by decide) (by decide)
  have ho : okS "abcxyz0189" = true := by decide +kernel
  have st := fun (m : Mem) (hm : Pot PP k m) => pick_str (N := N__law_pick) rfl hDraw hm (z := "abcxyz0189") (by decide) (by decide)
  obtain ⟨ys, m', e4, ly, py, p4, s4⟩ := lcEx (i := 4) (n := m.length) (te := mDef 2 0 (fun ws _ => ws) F__law_pick (mCons (mVar 0) (mCons (mVar 2) (mNil))) mNil) (ρ := [some (.hdl k), some (.dat (.str "abcdefghijklmnopqrstuvwxyz")), some (.dat (.str "abcxyz0189")), none, none]) (I := fun m' => Pot PP k m' ∧ Bes k m m') (P := fun _ y => ∃ c, y = D.str ⟨#[c]⟩ ∧ c ∈ ("abcxyz0189" : Str).cps.toList) (ds := rangeD 0 r3.toNat) (fun m h => h.2.len)
    (fun d hd m5 hm => by
      obtain ⟨c, m6, e, hc, p6, s6⟩ := st m5 hm.1
      exact ⟨_, m6, by simp [show F__law_pick [.hdl k, .dat (.str "abcxyz0189")] m5 = _ from e, s6.take], ⟨c, rfl, hc⟩, p6, hm.2.trans s6⟩) (m := m3) (acc := []) ⟨p3, s3⟩
  obtain ⟨ts, h1, h2, h3, h4, h5⟩ := join_signs ho py
  rw [rangeD_length] at h2 h3 h5
  obtain ⟨c, m6, e6, hc, p6, s6⟩ := pick_str (N := N__law_pick) rfl hDraw p4 (z := "abcdefghijklmnopqrstuvwxyz") (by decide) (by decide)
  have e6' : F__law_pick [.hdl k, .dat (.str "abcdefghijklmnopqrstuvwxyz")] m' = some (.ok (.dat (.str ⟨#[c]⟩)), m6) := e6
  have oc : okS ⟨#[c]⟩ = true := okS_one (z := "abcdefghijklmnopqrstuvwxyz") (by decide +kernel) hc
  refine ⟨⟨#[c]⟩ ++ Txt.join "" ts, m6, ?_, ?_, okS_append oc h4, p6, s4.trans s6⟩
  · have c1 : (rangeD 0 r3.toNat).length < 1000000 := by rw [rangeD_length]; omega
    have wp : wipeS [some (W.hdl k), some (W.dat (.str "abcdefghijklmnopqrstuvwxyz")), some (W.dat (.str "abcxyz0189")), none, none] [4] = [some (W.hdl k), some (W.dat (.str "abcdefghijklmnopqrstuvwxyz")), some (W.dat (.str "abcxyz0189")), none, none] := rfl
    have c2 : (ts.map (·.length)).sum + ts.length * ("" : Str).length ≤ 1000000 := by
      have : ("" : Str).length = 0 := rfl
      rw [this]; omega
    have fj : fJoin "" (.lst ys) = some (.str (Txt.join "" ts)) := by
      show ((txts ys).bind _) = _
      rw [h1]
      exact if_pos c2
    simp only [List.nil_append] at e4
    have q1 : 1 + (Txt.join "" ts).length ≤ 1000000 := by omega
    have one : (⟨#[c]⟩ : Str).length = 1 := rfl
    have tk : m6.take m'.length = m6 := s6.take
    have tk2 : m6.take m.length = m6 := by rw [← s4.len]; exact tk
    simp [F__law_word, mFn_ap, m__law_word, N__law_word, e3, s3.take, c1, wp, e4, fj, e6', tk, one, q1, show r3 < 1000000 by omega, show -1000000 < r3 by omega]
  · rw [strLen_append]
    have one : (⟨#[c]⟩ : Str).length = 1 := rfl
    omega
/-! ### the four questions -/
def numB : D → Bool
  | .int _ => true
  | _ => false
def cntB : D → Bool
  | .int i => decide (0 ≤ i)
  | _ => false
def LETS : Str := "abcdefghijklmnopqrstuvwxyz"
def FIGS : Str := "0123456789"
def sgB : D → Bool
  | .str z => inS z LETS || inS z FIGS
  | _ => false
def hdB (s : Str) : Bool := match s.cps.toList with
  | c :: _ => inS ⟨#[c]⟩ LETS
  | [] => false
def nameB : D → Bool
  | .str s => decide (1 ≤ s.length ∧ s.length ≤ 6) && hdB s && (signsD s).all sgB
  | _ => false
def endB : D → Bool
  | .tup [a, .str t] => nameB a && (t == "begin" || t == "end")
  | _ => false
/-- what is asked about: data, no text too long -/
def Asked : D → Prop
  | .non => True
  | .bl _ => True
  | .int _ => True
  | .str s => s.length ≤ 1000000
  | .tup ds => ∀ d ∈ ds, (tyN d).isSome = true ∧ ∀ s, d = .str s → s.length ≤ 1000000
  | .lst _ => True
  | .dct _ => True
  | _ => False
theorem signs_mem {s : Str} {d : D} (h : d ∈ signsD s) : ∃ c, d = .str ⟨#[c]⟩ := by
  obtain ⟨c, _, rfl⟩ := List.mem_map.mp h
  exact ⟨c, rfl⟩
theorem all1 {s : Str} {ρ : Slots} {m : Mem} {i : Nat} {te : EM} (he : ∀ c, te (ρ.set i (some (.dat (.str ⟨#[c]⟩)))) m = some (.ok (.dat (.bl (sgB (.str ⟨#[c]⟩)))), m)) : lcL (.one i) tYesM te (signsD s) ρ m [] = some ((signsD s).map fun d => .bl (sgB d), m) :=
  (lcMap (g := fun d => .bl (sgB d)) fun d hd => by
    obtain ⟨c, rfl⟩ := signs_mem hd
    exact he c).trans (by rw [List.nil_append])
theorem name1 {d : D} {m : Mem} (h : Asked d) : F_is_name [.dat d] m = some (.ok (.dat (.bl (nameB d))), m) := by
  cases d with
  | str s =>
    have hl : s.length ≤ 1000000 := h
    have w : wipeS [some (W.dat (.str s)), none] [1] = [some (.dat (.str s)), none] := rfl
    have c1 := all1 (s := s) (ρ := [some (.dat (.str s)), none]) (m := m) (i := 1) (te := mOr (mOp fIn (mVar 1) (mC (.str "abcdefghijklmnopqrstuvwxyz"))) (mOp fIn (mVar 1) (mC (.str "0123456789")))) fun c => by
      show mOr _ _ [some (.dat (.str s)), some (.dat (.str ⟨#[c]⟩))] m = _
      cases e : inS ⟨#[c]⟩ (Str.ofString "abcdefghijklmnopqrstuvwxyz") <;> simp [e, sgB, LETS, FIGS]
    have b1 := bls_map sgB (signsD s)
    cases hc : s.cps.toList with
    | nil =>
      have : s.length = 0 := by
        have : s.length = s.cps.toList.length := by simp [Str.length]
        rw [this, hc]; rfl
      simp [F_is_name, mFn_ap, m_is_name, N_is_name, nameB, this]
    | cons c r =>
      have hs : (signsD s).length < 1000000 ∨ ¬ s.length ≤ 6 := by rw [signsD_length]; omega
      have h1 : 1 ≤ s.length := by
        have : s.length = s.cps.toList.length := by simp [Str.length]
        rw [this, hc]; simp
      by_cases h6 : s.length ≤ 6
      · have hs' : (signsD s).length < 1000000 := by rw [signsD_length]; omega
        have e1 : (1 : Int) ≤ s.length := by omega
        have e6 : (s.length : Int) ≤ 6 := by omega
        cases e : inS ⟨#[c]⟩ (Str.ofString "abcdefghijklmnopqrstuvwxyz") <;> simp [F_is_name, mFn_ap, m_is_name, N_is_name, nameB, hl, h6, e1, e6, h1, hdB, hc, LETS, e, w, c1, b1, hs']
      · have e1 : (1 : Int) ≤ s.length := by omega
        have e6 : ¬ (s.length : Int) ≤ 6 := by omega
        simp [F_is_name, mFn_ap, m_is_name, N_is_name, nameB, hl, h6, e1, e6]
  | ty => exact h.elim
  | cl => exact h.elim
  | obj => exact h.elim
  | exc => exact h.elim
  | _ => simp [F_is_name, mFn_ap, m_is_name, N_is_name, nameB]
theorem name2 {d : D} {m : Mem} (h : Asked d) : F__law_is_name [.dat d] m = some (.ok (.dat (.bl (nameB d))), m) := by
  cases d with
  | str s =>
    have hl : s.length ≤ 1000000 := h
    have w : wipeS [some (W.dat (.str s)), some (.dat (.str "abcdefghijklmnopqrstuvwxyz")), none] [2] = [some (.dat (.str s)), some (.dat (.str "abcdefghijklmnopqrstuvwxyz")), none] := rfl
    have c1 := all1 (s := s) (ρ := [some (.dat (.str s)), some (.dat (.str "abcdefghijklmnopqrstuvwxyz")), none]) (m := m) (i := 2) (te := mOr (mOp fIn (mVar 2) (mVar 1)) (mOp fIn (mVar 2) (mC (.str "0123456789")))) fun c => by
      show mOr _ _ [some (.dat (.str s)), some (.dat (.str "abcdefghijklmnopqrstuvwxyz")), some (.dat (.str ⟨#[c]⟩))] m = _
      cases e : inS ⟨#[c]⟩ (Str.ofString "abcdefghijklmnopqrstuvwxyz") <;> simp [e, sgB, LETS, FIGS]
    have b1 := bls_map sgB (signsD s)
    cases hc : s.cps.toList with
    | nil =>
      have h0 : s = "" := by
        obtain ⟨c⟩ := s
        have : c = #[] := by simpa using hc
        rw [this]; rfl
      subst h0
      simp [F__law_is_name, mFn_ap, m__law_is_name, N__law_is_name]
      rfl
    | cons c r =>
      have h1 : 1 ≤ s.length := by
        have : s.length = s.cps.toList.length := by simp [Str.length]
        rw [this, hc]; simp
      have hne : (s == Str.ofString "") = false := by
        rw [beq_eq_false_iff_ne]
        intro z
        rw [z] at h1
        exact absurd h1 (by decide)
      by_cases h6 : s.length ≤ 6
      · have hs' : (signsD s).length < 1000000 := by rw [signsD_length]; omega
        have e6 : ¬ (6 : Int) < s.length := by omega
        cases e : inS ⟨#[c]⟩ (Str.ofString "abcdefghijklmnopqrstuvwxyz") <;> simp [F__law_is_name, mFn_ap, m__law_is_name, N__law_is_name, nameB, hl, h6, hne, e6, h1, hdB, hc, LETS, e, w, c1, b1, hs']
      · have e6 : (6 : Int) < s.length := by omega
        simp [F__law_is_name, mFn_ap, m__law_is_name, N__law_is_name, nameB, hl, h6, hne, e6]
  | ty => exact h.elim
  | cl => exact h.elim
  | obj => exact h.elim
  | exc => exact h.elim
  | _ => simp [F__law_is_name, mFn_ap, m__law_is_name, N__law_is_name, nameB]
theorem asked_of {d : D} (h : (tyN d).isSome = true ∧ ∀ s, d = .str s → s.length ≤ 1000000) (ht : ∀ ds, d ≠ .tup ds) : Asked d := by
  cases d with
  | str s => exact h.2 s rfl
  | tup ds => exact absurd rfl (ht ds)
  | ty => cases h.1
  | cl => cases h.1
  | obj => cases h.1
  | exc => cases h.1
  | _ => trivial
/-- a name's question about any data -/
theorem name1' {d : D} {m : Mem} (h : (tyN d).isSome = true ∧ ∀ s, d = .str s → s.length ≤ 1000000) : F_is_name [.dat d] m = some (.ok (.dat (.bl (nameB d))), m) := by
  cases d with
  | tup ds => simp [F_is_name, mFn_ap, m_is_name, N_is_name, nameB]
  | _ => exact name1 (asked_of h fun _ z => by cases z)
theorem name2' {d : D} {m : Mem} (h : (tyN d).isSome = true ∧ ∀ s, d = .str s → s.length ≤ 1000000) : F__law_is_name [.dat d] m = some (.ok (.dat (.bl (nameB d))), m) := by
  cases d with
  | tup ds => simp [F__law_is_name, mFn_ap, m__law_is_name, N__law_is_name, nameB]
  | _ => exact name2 (asked_of h fun _ z => by cases z)
theorem fIn_tup2 {t a b : Str} : fIn (.str t) (.tup [.str a, .str b]) = some (.bl ((a == t) || (b == t))) := by
  have : (([D.str a, D.str b].any fun y => PyData.eqv (py y) (py (.str t)))) = ((a == t) || (b == t)) := by
    show (a == t || (b == t || false)) = _
    rw [Bool.or_false]
  show ((inD (.str t) (.tup [.str a, .str b])).map D.bl) = _
  rw [← this]
  rfl
theorem eqc (s t : Str) : (t == s) = (s == t) := by
  rw [Bool.eq_iff_iff, beq_iff_eq, beq_iff_eq]; exact eq_comm
theorem end1 {d : D} {m : Mem} (h : Asked d) : F_is_end [.dat d] m = some (.ok (.dat (.bl (endB d))), m) := by
  cases d with
  | tup ds =>
    match ds, h with
    | [], _ => simp [F_is_end, mFn_ap, m_is_end, N_is_end, endB]
    | [a], _ => simp [F_is_end, mFn_ap, m_is_end, N_is_end, endB]
    | a :: b :: c :: r, _ =>
      have : ((r.length : Int) + 1 + 1 + 1 == 2) = false := by
        rw [beq_eq_false_iff_ne]; omega
      simp [F_is_end, mFn_ap, m_is_end, N_is_end, endB, this]
    | [a, b], h =>
      have ha := name1' (m := m) (h a (by simp))
      have hb := h b (by simp)
      cases e : nameB a with
      | false =>
        rw [e] at ha
        have : endB (.tup [a, b]) = false := by cases b <;> simp [endB, e]
        simp [F_is_end, mFn_ap, m_is_end, N_is_end, this, ha]
      | true =>
        rw [e] at ha
        cases b with
        | str t => simp [F_is_end, mFn_ap, m_is_end, N_is_end, endB, ha, e, fIn_tup2]; rw [eqc t "begin", eqc t "end"]
        | ty => cases hb.1
        | cl => cases hb.1
        | obj => cases hb.1
        | exc => cases hb.1
        | _ => simp [F_is_end, mFn_ap, m_is_end, N_is_end, endB, ha]
  | ty => exact h.elim
  | cl => exact h.elim
  | obj => exact h.elim
  | exc => exact h.elim
  | _ => simp [F_is_end, mFn_ap, m_is_end, N_is_end, endB]
theorem end2 {d : D} {m : Mem} (h : Asked d) : F__law_is_end [.dat d] m = some (.ok (.dat (.bl (endB d))), m) := by
  cases d with
  | tup ds =>
    match ds, h with
    | [], _ => simp [F__law_is_end, mFn_ap, m__law_is_end, N__law_is_end, endB]
    | [a], _ => simp [F__law_is_end, mFn_ap, m__law_is_end, N__law_is_end, endB]
    | a :: b :: c :: r, _ =>
      have : ((r.length : Int) + 1 + 1 + 1 == 2) = false := by
        rw [beq_eq_false_iff_ne]; omega
      simp [F__law_is_end, mFn_ap, m__law_is_end, N__law_is_end, endB, this]
    | [a, b], h =>
      have ha := name2' (m := m) (h a (by simp))
      have hb := h b (by simp)
      cases b with
      | str t =>
        cases e : nameB a with
        | false => rw [e] at ha; simp [F__law_is_end, mFn_ap, m__law_is_end, N__law_is_end, endB, ha, e]
        | true =>
          rw [e] at ha
          cases e2 : t == Str.ofString "begin" <;> simp [F__law_is_end, mFn_ap, m__law_is_end, N__law_is_end, endB, ha, e, e2]
      | ty => cases hb.1
      | cl => cases hb.1
      | obj => cases hb.1
      | exc => cases hb.1
      | _ => simp [F__law_is_end, mFn_ap, m__law_is_end, N__law_is_end, endB]
  | ty => exact h.elim
  | cl => exact h.elim
  | obj => exact h.elim
  | exc => exact h.elim
  | _ => simp [F__law_is_end, mFn_ap, m__law_is_end, N__law_is_end, endB]
theorem heard_ok {id : Nat} {F : FM} {cs : List Cp} {d : D} {m : Mem} (ht : t__law_heard__law_deed id = some (0, F)) (hF : F (cs.map Cp.w) m = some (.ok (.dat d), m)) : F__law_heard [.clo id cs] m = some (.ok (.dat (.lst [.str "told", d])), m) := by
  have c : mCallV0 0 t__law_heard__law_deed [some (.clo id cs), some (.dat (.lst [.str "none", .int 0])), none] m = some (.ok (.dat d), m) := by
    show (match t__law_heard__law_deed id with
    | some (n, F) => if n = 0 then cut m.length (F (cs.map Cp.w) m) else none
    | none => none) = _
    rw [ht]
    show cut m.length (F (cs.map Cp.w) m) = _
    rw [hF]; simp
  have t : sTry rows [⟨"InvalidText", (some 2), 1, xLst (xCons (xC (.str "text")) (xCons (xAt rows "line") (xNil)))⟩] (sSet 1 (mLst (mCons (mC (.str "told")) (mCons (mCallV0 0 t__law_heard__law_deed) (mNil))))) [some (.clo id cs), some (.dat (.lst [.str "none", .int 0])), none] m = some (.nx [some (.clo id cs), some (.dat (.lst [.str "told", d])), none], m) := by
    have : sSet 1 (mLst (mCons (mC (.str "told")) (mCons (mCallV0 0 t__law_heard__law_deed) (mNil)))) [some (.clo id cs), some (.dat (.lst [.str "none", .int 0])), none] m = some (.nx [some (.clo id cs), some (.dat (.lst [.str "told", d])), none], m) := by simp [c]
    unfold sTry
    rw [this]
  simp [F__law_heard, mFn_ap, m__law_heard, N__law_heard, t]
theorem heard_ex {id : Nat} {F : FM} {cs : List Cp} {d : D} {m : Mem} (ht : t__law_heard__law_deed id = some (0, F)) (hF : F (cs.map Cp.w) m = some (.ex "InvalidText" [("line", d)], m)) : F__law_heard [.clo id cs] m = some (.ok (.dat (.lst [.str "text", d])), m) := by
  have c : mCallV0 0 t__law_heard__law_deed [some (.clo id cs), some (.dat (.lst [.str "none", .int 0])), none] m = some (.ex "InvalidText" [("line", d)], m) := by
    show (match t__law_heard__law_deed id with
    | some (n, F) => if n = 0 then cut m.length (F (cs.map Cp.w) m) else none
    | none => none) = _
    rw [ht]
    show cut m.length (F (cs.map Cp.w) m) = _
    rw [hF]; simp
  have t : sTry rows [⟨"InvalidText", (some 2), 1, xLst (xCons (xC (.str "text")) (xCons (xAt rows "line") (xNil)))⟩] (sSet 1 (mLst (mCons (mC (.str "told")) (mCons (mCallV0 0 t__law_heard__law_deed) (mNil))))) [some (.clo id cs), some (.dat (.lst [.str "none", .int 0])), none] m = some (.nx [some (.clo id cs), some (.dat (.lst [.str "text", d])), none], m) := by
    have : sSet 1 (mLst (mCons (mC (.str "told")) (mCons (mCallV0 0 t__law_heard__law_deed) (mNil)))) [some (.clo id cs), some (.dat (.lst [.str "none", .int 0])), none] m = some (.ex "InvalidText" [("line", d)] [some (.clo id cs), some (.dat (.lst [.str "none", .int 0])), none], m) := by simp [c]
    unfold sTry
    rw [this]
    rfl
  simp [F__law_heard, mFn_ap, m__law_heard, N__law_heard, t]

theorem lenOf {s : Str} (h : s.length ≤ 1000000) : (tyN (.str s)).isSome = true ∧ ∀ t, D.str s = .str t → t.length ≤ 1000000 := ⟨rfl, fun t e => by cases e; exact h⟩
/-- what a text tells -/
def readD (s : Str) : D := match Txt.split s "." with
  | [a, b] => if endB (.tup [.str a, .str b]) = true then .tup [.str a, .str b] else .non
  | _ => .non
theorem parts_le {s : Str} (h : s.length < 1000000) : ∀ p ∈ Txt.split s ".", p.length ≤ 1000000 := fun p hp => by
  have := split_le (x := s) (y := ".") (by decide +kernel) (by decide +kernel) p hp
  omega
theorem read1 {s : Str} {m : Mem} (h : s.length < 1000000) : F__law_read [.dat (.str s)] m = some (.ok (.dat (readD s)), m) := by
  have pl := parts_le h
  have fs := fSplit_dot h
  unfold readD
  match e : Txt.split s ".", pl with
  | [], _ => rw [e] at fs; simp [F__law_read, mFn_ap, m__law_read, N__law_read, fs, tyD]
  | [a], _ => rw [e] at fs; simp [F__law_read, mFn_ap, m__law_read, N__law_read, fs, tyD]
  | a :: b :: c :: r, _ =>
    rw [e] at fs
    have : ((r.length : Int) + 1 + 1 + 1 == 2) = false := by
      rw [beq_eq_false_iff_ne]; omega
    simp [F__law_read, mFn_ap, m__law_read, N__law_read, fs, tyD, this]
  | [a, b], pl =>
    rw [e] at fs
    have q := end2 (d := .tup [.str a, .str b]) (m := m) (by
      intro d hd
      rcases List.mem_cons.mp hd with rfl | hd
      · exact lenOf (pl a (by simp))
      · rcases List.mem_cons.mp hd with rfl | hd
        · exact lenOf (pl b (by simp))
        · cases hd)
    cases z : endB (.tup [.str a, .str b]) <;> rw [z] at q <;> simp [F__law_read, mFn_ap, m__law_read, N__law_read, fs, tyD, q, z]
theorem told1 {s : Str} {m : Mem} (h : s.length < 1000000) : F_end_told [.dat (.str s)] m = some (.ok (.dat (readD s)), m) := by
  have pl := parts_le h
  have fs := fSplit_dot h
  unfold readD
  match e : Txt.split s ".", pl with
  | [], _ => rw [e] at fs; simp [F_end_told, mFn_ap, m_end_told, N_end_told, fs, tyD]
  | [a], _ => rw [e] at fs; simp [F_end_told, mFn_ap, m_end_told, N_end_told, fs, tyD]
  | a :: b :: c :: r, _ =>
    rw [e] at fs
    have : ((r.length : Int) + 1 + 1 + 1 == 2) = false := by
      rw [beq_eq_false_iff_ne]; omega
    simp [F_end_told, mFn_ap, m_end_told, N_end_told, fs, tyD, this]
  | [a, b], pl =>
    rw [e] at fs
    have q := name1' (d := .str a) (m := m) (lenOf (pl a (by simp)))
    have i := fIn_tup2 (t := b) (a := "begin") (b := "end")
    have z : endB (.tup [.str a, .str b]) = (nameB (.str a) && (b == "begin" || b == "end")) := rfl
    rw [eqc, eqc b "end"] at i
    have ni : fNotIn (.str b) (.tup [.str "begin", .str "end"]) = some (.bl (!(b == "begin" || b == "end"))) := by
      show ((inD (.str b) (.tup [.str "begin", .str "end"])).map fun b => D.bl (!b)) = _
      have i' : (inD (.str b) (.tup [.str "begin", .str "end"])).map D.bl = some (.bl (b == "begin" || b == "end")) := i
      obtain ⟨v, hv, e⟩ := Option.map_eq_some_iff.mp i'
      cases e
      rw [hv]; rfl
    show F_end_told [.dat (.str s)] m = some (.ok (.dat (if endB (.tup [.str a, .str b]) = true then .tup [.str a, .str b] else .non)), m)
    rw [z]
    cases nz : nameB (.str a) with
    | false => rw [nz] at q; simp [F_end_told, mFn_ap, m_end_told, N_end_told, fs, tyD, q]
    | true =>
      rw [nz] at q
      cases bz : (b == "begin" || b == "end") <;> rw [bz] at ni <;> simp [F_end_told, mFn_ap, m_end_told, N_end_told, fs, tyD, q, ni]

/-- read_end: a text -/
theorem want1 {s : Str} {m : Mem} : F_want_string [.dat (.str s)] m = some (.ok (.dat .non), m) := by
  simp [F_want_string, mFn_ap, m_want_string, N_want_string]
theorem readD_or (s : Str) : readD s = .non ∨ ∃ a b, readD s = .tup [.str a, .str b] := by
  unfold readD
  split
  · split
    · exact .inr ⟨_, _, rfl⟩
    · exact .inl rfl
  · exact .inl rfl
theorem rend_tup {s a b : Str} {m : Mem} (h : s.length < 1000000) (e : readD s = .tup [.str a, .str b]) : F_read_end [.dat (.str s)] m = some (.ok (.dat (.tup [.str a, .str b])), m) := by
  have t := told1 (m := m) h
  rw [e] at t
  simp [F_read_end, mFn_ap, m_read_end, N_read_end, want1, t]
theorem rend_non {s : Str} {m : Mem} (h : s.length < 1000000) (e : readD s = .non) : F_read_end [.dat (.str s)] m = some (.ex "InvalidText" [("line", .int 1)], m) := by
  have t := told1 (m := m) h
  rw [e] at t
  have x : sRaise (mExc "InvalidText" ["line"] 1 0 (fun ws _ => ws) (mCons (mC (.int 1)) (mNil)) mNil) [some (.dat (.str s)), some (.dat .non)] m = some (.ex "InvalidText" [("line", .int 1)] [some (.dat (.str s)), some (.dat .non)], m) := sRaise_exc (exc1 rfl rfl)
  simp [F_read_end, mFn_ap, m_read_end, N_read_end, want1, t, x]
/-- no text -/
def noS : D → Bool
  | .str _ => false
  | _ => true
theorem rend_bad {d : D} {m : Mem} (h : (tyN d).isSome = true) (hn : noS d = true) : F_read_end [.dat d] m = some (.ex "InvalidText" [("line", .non)], m) := by
  have x : ∀ ρ, sRaise (mExc "InvalidText" ["line"] 1 0 (fun ws _ => ws) (mCons (mC .non) (mNil)) mNil) ρ m = some (.ex "InvalidText" [("line", .non)] ρ, m) := fun ρ => sRaise_exc (exc1 rfl rfl)
  have w : F_want_string [.dat d] m = some (.ex "InvalidText" [("line", .non)], m) := by
    cases d with
    | str => cases hn
    | ty => cases h
    | cl => cases h
    | obj => cases h
    | exc => cases h
    | _ => simp [F_want_string, mFn_ap, m_want_string, N_want_string, x]
  simp [F_read_end, mFn_ap, m_read_end, N_read_end, w]
theorem etext_ok {a b : Str} {m : Mem} (e : endB (.tup [.str a, .str b]) = true) (ha : a.length ≤ 1000) (hb : b.length ≤ 1000) : F_end_text [.dat (.tup [.str a, .str b])] m = some (.ok (.dat (.str (a ++ "." ++ b))), m) := by
  have q := end1 (d := .tup [.str a, .str b]) (m := m) (by
      intro d hd
      rcases List.mem_cons.mp hd with rfl | hd
      · exact lenOf (by omega)
      · rcases List.mem_cons.mp hd with rfl | hd
        · exact lenOf (by omega)
        · cases hd)
  rw [e] at q
  have l1 : (Str.empty ++ a).length ≤ 1000 := by rw [strLen_append]; show 0 + _ ≤ _; omega
  have em : Str.empty ++ a = a := by
    show Str.mk (#[] ++ a.cps) = a
    simp
  have d1 : ("." : Str).length = 1 := rfl
  have e0 : Str.empty.length = 0 := rfl
  simp [F_end_text, mFn_ap, m_end_text, N_end_text, q, em, e0, strLen_append, d1, show a.length ≤ 1000000 by omega, show b.length ≤ 1000000 by omega, show a.length ≤ 999999 by omega, show a.length + 1 + b.length ≤ 1000000 by omega]
theorem etext_no {d : D} {m : Mem} (h : Asked d) (e : endB d = false) : F_end_text [.dat d] m = some (.ex "InvalidText" [("line", .non)], m) := by
  have q := end1 (m := m) h
  rw [e] at q
  have x : ∀ ρ, sRaise (mExc "InvalidText" ["line"] 1 0 (fun ws _ => ws) (mCons (mC .non) (mNil)) mNil) ρ m = some (.ex "InvalidText" [("line", .non)] ρ, m) := fun ρ => sRaise_exc (exc1 rfl rfl)
  simp [F_end_text, mFn_ap, m_end_text, N_end_text, q, x]
theorem lam0 {d : D} {m : Mem} : F_lam_0 [.dat d] m = cut m.length (F_read_end [.dat d] m) := by
  simp [F_lam_0, mLam, m_lam_0, N_lam_0]
theorem lam1 {d : D} {m : Mem} : F_lam_1 [.dat d] m = cut m.length (F_read_end [.dat d] m) := by
  simp [F_lam_1, mLam, m_lam_1, N_lam_1, byIx]
theorem lam2 {d : D} {m : Mem} : F_lam_2 [.dat d] m = cut m.length (F_read_end [.dat d] m) := by
  simp [F_lam_2, mLam, m_lam_2, N_lam_2]
theorem lam3 {d : D} {m : Mem} : F_lam_3 [.dat d] m = cut m.length (F_end_text [.dat d] m) := by
  simp [F_lam_3, mLam, m_lam_3, N_lam_3]
theorem lam4 {d : D} {m : Mem} : F_lam_4 [.dat d] m = cut m.length (F_end_text [.dat d] m) := by
  simp [F_lam_4, mLam, m_lam_4, N_lam_4, byIx]
theorem asC {i : Nat} {d e : D} {j : Nat} {ρ : Slots} {m : Mem} (hj : ρ[j]? = some (some (.dat d))) (h : F__law_heard [.clo i [.d d]] m = some (.ok (.dat e), m)) : mDefC 1 (fun ws _ => ws) F__law_heard (cLam i [j] (cNil)) ρ m = some (.ok (.dat e), m) :=
  defC_clo (cs := [.d d]) (by unfold capD; rw [hj]; rfl) h rfl (by simp)

/-- a short text -/
def shT : D → Bool
  | .str s => decide (s.length < 1000000)
  | _ => false
def lnL (w side : Str) : Str := w ++ "." ++ side
def txL (w side : Str) (r : Int) : List D :=
  [.str (lnL w side), .str w, .str side, .str ("." ++ side), .str (w ++ "."), .str (w ++ " ." ++ side), .str (w ++ ". " ++ side), .str (lnL w side ++ " "), .str (" " ++ lnL w side)]
  ++ [.str (lnL w side ++ "\n"), .str (lnL w side ++ lnL w side), .str (lnL w side ++ "." ++ side), .str (cutS (lnL w side) none (some r) ++ cutS (lnL w side) (some (r + 1)) none), .str (cutS (lnL w side) none (some r) ++ "." ++ cutS (lnL w side) (some r) none)]
  ++ [.str (w ++ "." ++ side ++ "s"), .str (w ++ "9." ++ side), .str ("9" ++ lnL w side), .str (w ++ ".."), .str "", .str ".", .str (w ++ ".Begin")]
  ++ [.str ("A." ++ side), .str (w ++ ",end"), .str (w ++ ".end"), .str (w ++ ".begin"), .str (side ++ "." ++ w)]
  ++ [.str "end.end", .str "begin.begin"]
theorem txL_ok {w side : Str} {r : Int} (hw : w.length ≤ 7) (hs : side.length ≤ 5) : ∀ d ∈ txL w side r, ∃ s, d = .str s ∧ s.length < 1000000 := by
  have ll : (lnL w side).length ≤ 13 := by
    unfold lnL
    rw [strLen_append, strLen_append]
    have : ("." : Str).length = 1 := rfl
    omega
  have c1 := cutS_length (lnL w side) none (some r)
  have c2 := cutS_length (lnL w side) (some (r + 1)) none
  have c3 := cutS_length (lnL w side) (some r) none
  intro d hd
  simp only [txL, List.mem_append, List.mem_cons, List.not_mem_nil, or_false] at hd
  have a1 : ("." : Str).length = 1 := rfl
  have a2 : (" ." : Str).length = 2 := rfl
  have a3 : (". " : Str).length = 2 := rfl
  have a4 : (" " : Str).length = 1 := rfl
  have a5 : ("\n" : Str).length = 1 := rfl
  have a6 : ("s" : Str).length = 1 := rfl
  have a7 : ("9." : Str).length = 2 := rfl
  have a8 : ("9" : Str).length = 1 := rfl
  have a9 : (".." : Str).length = 2 := rfl
  have b1 : ("" : Str).length = 0 := rfl
  have b2 : (".Begin" : Str).length = 6 := rfl
  have b3 : ("A." : Str).length = 2 := rfl
  have b4 : (",end" : Str).length = 4 := rfl
  have b5 : (".end" : Str).length = 4 := rfl
  have b6 : (".begin" : Str).length = 6 := rfl
  have b7 : ("end.end" : Str).length = 7 := rfl
  have b8 : ("begin.begin" : Str).length = 11 := rfl
  rcases hd with (((hd | hd) | hd) | hd) | hd <;> (repeat' (rcases hd with rfl | hd)) <;> (try subst hd) <;> exact ⟨_, rfl, by (try simp only [strLen_append]); omega⟩
theorem texts_ok {m : Mem} {k : Nat} {w side : Str} (h : Pot PP k m) (hw : w.length ≤ 7) (hs : side.length ≤ 5) : ∃ r m', F__law_texts [.hdl k, .dat (.str w), .dat (.str side)] m = some (.ok (.dat (.lst (txL w side r))), m') ∧ Pot PP k m' ∧ Bes k m m' := by
  obtain ⟨r, m1, e1, r0, r1, p1, s1⟩ := dr 9 h (by decide) (by decide)
  refine ⟨r, m1, ?_, p1, s1⟩
  have ll : (w ++ Str.ofString "." ++ side).length ≤ 13 := by
    rw [strLen_append, strLen_append]
    have : ("." : Str).length = 1 := rfl
    omega
  have c1 := cutS_length (w ++ Str.ofString "." ++ side) none (some r)
  have c2 := cutS_length (w ++ Str.ofString "." ++ side) (some (r + 1)) none
  have c3 := cutS_length (w ++ Str.ofString "." ++ side) (some r) none
  have a1 : (Str.ofString ".").length = 1 := rfl
  have a2 : (Str.ofString " .").length = 2 := rfl
  have a3 : (Str.ofString ". ").length = 2 := rfl
  have a4 : (Str.ofString " ").length = 1 := rfl
  have a5 : (Str.ofString "\n").length = 1 := rfl
  have a6 : (Str.ofString "s").length = 1 := rfl
  have a7 : (Str.ofString "9.").length = 2 := rfl
  have a8 : (Str.ofString "9").length = 1 := rfl
  have a9 : (Str.ofString "..").length = 2 := rfl
  have b2 : (Str.ofString ".Begin").length = 6 := rfl
  have b3 : (Str.ofString "A.").length = 2 := rfl
  have b4 : (Str.ofString ",end").length = 4 := rfl
  have b5 : (Str.ofString ".end").length = 4 := rfl
  have b6 : (Str.ofString ".begin").length = 6 := rfl
  generalize hx : cutS (w ++ Str.ofString "." ++ side) none (some r) = x at c1
  generalize hy : cutS (w ++ Str.ofString "." ++ side) (some (r + 1)) none = y at c2
  generalize hz : cutS (w ++ Str.ofString "." ++ side) (some r) none = z at c3
  rw [strLen_append, strLen_append, a1] at ll c1 c2 c3
  simp (disch := omega) [F__law_texts, mFn_ap, m__law_texts, N__law_texts, e1, s1.take, if_pos, strLen_append, a1, a2, a3, a4, a5, a6, a7, a8, a9, b2, b3, b4, b5, b6, hx, hy, hz, txL, lnL]

theorem step0 {s : Str} {m : Mem} {h a b y u v : Option W} (hs : s.length < 1000000) : ∃ d, l__law_right_0 [h, a, b, some (.dat (.str s)), y, u, v] m = some (.nx [h, a, b, some (.dat (.str s)), some (.dat d), u, v], m) := by
  have r := read1 (m := m) hs
  rcases readD_or s with e | ⟨p, q, e⟩
  · refine ⟨.lst [.str "text", .int 1], ?_⟩
    have f := rend_non (m := m) hs e
    have q0 : mDefC 1 (fun ws _ => ws) F__law_heard (cLam 0 [3] (cNil)) [h, a, b, some (.dat (.str s)), some (.dat (.lst [.str "text", .int 1])), u, v] m = _ := asC (d := .str s) rfl (heard_ex (F := F_lam_0) (d := .int 1) rfl (lam0.trans (by rw [f]; simp)))
    have q1 : mDefC 1 (fun ws _ => ws) F__law_heard (cLam 1 [3] (cNil)) [h, a, b, some (.dat (.str s)), some (.dat (.lst [.str "text", .int 1])), u, v] m = _ := asC (d := .str s) rfl (heard_ex (F := F_lam_1) (d := .int 1) rfl (lam1.trans (by rw [f]; simp)))
    have n : fNe (.lst [.str "text", .int 1]) (.lst [.str "text", .int 1]) = some (.bl false) := fNe_self rfl
    rw [e] at r
    simp [l__law_right_0, r, q0, q1, n]
  · refine ⟨.lst [.str "told", .tup [.str p, .str q]], ?_⟩
    have f := rend_tup (m := m) hs e
    have q0 : mDefC 1 (fun ws _ => ws) F__law_heard (cLam 0 [3] (cNil)) [h, a, b, some (.dat (.str s)), some (.dat (.lst [.str "told", .tup [.str p, .str q]])), u, v] m = _ := asC (d := .str s) rfl (heard_ok (F := F_lam_0) (d := .tup [.str p, .str q]) rfl (lam0.trans (by rw [f]; simp)))
    have q1 : mDefC 1 (fun ws _ => ws) F__law_heard (cLam 1 [3] (cNil)) [h, a, b, some (.dat (.str s)), some (.dat (.lst [.str "told", .tup [.str p, .str q]])), u, v] m = _ := asC (d := .str s) rfl (heard_ok (F := F_lam_1) (d := .tup [.str p, .str q]) rfl (lam1.trans (by rw [f]; simp)))
    have n : fNe (.lst [.str "told", .tup [.str p, .str q]]) (.lst [.str "told", .tup [.str p, .str q]]) = some (.bl false) := fNe_self rfl
    rw [e] at r
    simp [l__law_right_0, r, q0, q1, n]
theorem step1 {d : D} {m : Mem} {h a b x y v : Option W} (ht : (tyN d).isSome = true) (hn : noS d = true) : l__law_right_1 [h, a, b, x, y, some (.dat d), v] m = some (.nx [h, a, b, x, y, some (.dat d), v], m) := by
  have f := rend_bad (m := m) ht hn
  have q0 : mDefC 1 (fun ws _ => ws) F__law_heard (cLam 2 [5] (cNil)) [h, a, b, x, y, some (.dat d), v] m = _ := asC (d := d) rfl (heard_ex (F := F_lam_2) (d := .non) rfl (lam2.trans (by rw [f]; simp)))
  have n : fNe (.lst [.str "text", .non]) (.lst [.str "text", .non]) = some (.bl false) := fNe_self rfl
  simp [l__law_right_1, q0, n]
theorem step2 {d : D} {m : Mem} {h a b x y v : Option W} (hA : Asked d) (he : endB d = true → ∃ p q, d = .tup [.str p, .str q] ∧ p.length ≤ 1000 ∧ q.length ≤ 1000) : ∃ e, l__law_right_2 [h, a, b, x, y, some (.dat d), v] m = some (.nx [h, a, b, x, some (.dat e), some (.dat d), v], m) := by
  have r := end2 (m := m) hA
  cases e : endB d with
  | false =>
    refine ⟨.lst [.str "text", .non], ?_⟩
    have f := etext_no (m := m) hA e
    have q0 : mDefC 1 (fun ws _ => ws) F__law_heard (cLam 3 [5] (cNil)) [h, a, b, x, some (.dat (.lst [.str "text", .non])), some (.dat d), v] m = _ := asC (d := d) rfl (heard_ex (F := F_lam_3) (d := .non) rfl (lam3.trans (by rw [f]; simp)))
    have q1 : mDefC 1 (fun ws _ => ws) F__law_heard (cLam 4 [5] (cNil)) [h, a, b, x, some (.dat (.lst [.str "text", .non])), some (.dat d), v] m = _ := asC (d := d) rfl (heard_ex (F := F_lam_4) (d := .non) rfl (lam4.trans (by rw [f]; simp)))
    have n : fNe (.lst [.str "text", .non]) (.lst [.str "text", .non]) = some (.bl false) := fNe_self rfl
    rw [e] at r
    simp [l__law_right_2, r, q0, q1, n]
  | true =>
    obtain ⟨p, q, rfl, hp, hq⟩ := he e
    refine ⟨.lst [.str "told", .str (p ++ "." ++ q)], ?_⟩
    have f := etext_ok (m := m) e hp hq
    have q0 : mDefC 1 (fun ws _ => ws) F__law_heard (cLam 3 [5] (cNil)) [h, a, b, x, some (.dat (.lst [.str "told", .str (p ++ "." ++ q)])), some (.dat (.tup [.str p, .str q])), v] m = _ := asC (d := .tup [.str p, .str q]) rfl (heard_ok (F := F_lam_3) (d := .str (p ++ "." ++ q)) rfl (lam3.trans (by rw [f]; simp)))
    have q1 : mDefC 1 (fun ws _ => ws) F__law_heard (cLam 4 [5] (cNil)) [h, a, b, x, some (.dat (.lst [.str "told", .str (p ++ "." ++ q)])), some (.dat (.tup [.str p, .str q])), v] m = _ := asC (d := .tup [.str p, .str q]) rfl (heard_ok (F := F_lam_4) (d := .str (p ++ "." ++ q)) rfl (lam4.trans (by rw [f]; simp)))
    have n : fNe (.lst [.str "told", .str (p ++ "." ++ q)]) (.lst [.str "told", .str (p ++ "." ++ q)]) = some (.bl false) := fNe_self rfl
    rw [e] at r
    have d1 : (Str.ofString ".").length = 1 := rfl
    simp (disch := omega) [l__law_right_2, r, q0, q1, n, strLen_append, d1, if_pos]
def badL (w side : Str) : List D := [.non, .int 5, .bl true, .tup [.str w, .str side], .lst [.str w, .str side], .dct [], .tup [.str "a", .str "end"], .tup []]
def endL (w side : Str) : List D := [.tup [.str w, .str side], .tup [.str side, .str side], .tup [.str w, .str "End"], .lst [.str w, .str side], .tup [.str w], .str (w ++ "." ++ side), .non, .int 0, .tup [.str "", .str side]]
theorem endL_ok {w side : Str} (hw : w.length ≤ 7) (hs : side.length ≤ 5) : ∀ d ∈ endL w side, Asked d ∧ (endB d = true → ∃ p q, d = .tup [.str p, .str q] ∧ p.length ≤ 1000 ∧ q.length ≤ 1000) := by
  have b1 : ("" : Str).length = 0 := rfl
  have b2 : ("End" : Str).length = 3 := rfl
  have b3 : ("." : Str).length = 1 := rfl
  have two : ∀ {p q : Str}, p.length ≤ 1000 → q.length ≤ 1000 → Asked (.tup [.str p, .str q]) ∧ (endB (.tup [.str p, .str q]) = true → ∃ p' q', D.tup [.str p, .str q] = .tup [.str p', .str q'] ∧ p'.length ≤ 1000 ∧ q'.length ≤ 1000) := fun {p q} hp hq => ⟨(fun d hd => by
    rcases List.mem_cons.mp hd with rfl | hd
    · exact lenOf (by omega)
    · rcases List.mem_cons.mp hd with rfl | hd
      · exact lenOf (by omega)
      · cases hd), fun _ => ⟨p, q, rfl, hp, hq⟩⟩
  intro d hd
  simp only [endL, List.mem_cons, List.not_mem_nil, or_false] at hd
  rcases hd with rfl | rfl | rfl | rfl | rfl | rfl | rfl | rfl | rfl
  · exact two (by omega) (by omega)
  · exact two (by omega) (by omega)
  · exact two (by omega) (by omega)
  · exact ⟨trivial, fun z => by cases z⟩
  · refine ⟨fun d hd => ?_, fun z => by cases z⟩
    rcases List.mem_cons.mp hd with rfl | hd
    · exact lenOf (by omega)
    · cases hd
  · exact ⟨by show Str.length _ ≤ _; rw [strLen_append, strLen_append]; omega, fun z => by cases z⟩
  · exact ⟨trivial, fun z => by cases z⟩
  · exact ⟨trivial, fun z => by cases z⟩
  · exact two (by omega) (by omega)
theorem right_ok {m : Mem} (h : Pot PP 0 m) (hl : m.length = 1) : ∃ m', F__law_right [.hdl 0] m = some (.ok (.dat (.bl true)), m') := by
  obtain ⟨w, m1, e1, lw, ow, p1, s1⟩ := word_ok h
  obtain ⟨sd, m2, e2, hs, p2, s2⟩ := pick_lst (N := N__law_pick) rfl hDraw p1 (xs := [.str "begin", .str "end"]) (by decide) (by decide)
  have e2' : F__law_pick [.hdl 0, .dat (.lst [.str "begin", .str "end"])] m1 = some (.ok (.dat sd), m2) := e2
  obtain ⟨side, rfl, ls⟩ : ∃ side : Str, sd = .str side ∧ side.length ≤ 5 := by
    simp only [List.mem_cons, List.not_mem_nil, or_false] at hs
    rcases hs with rfl | rfl <;> exact ⟨_, rfl, by decide +kernel⟩
  obtain ⟨r, m3, e3, p3, s3⟩ := texts_ok (w := w) (side := side) p2 lw ls
  obtain ⟨ρ1, n1, f1, ⟨x1, y1, rfl⟩, rfl⟩ := forAll (mg := gSet 3) (ds := txL w side r) (body := l__law_right_0)
    (I := fun ρ m' => (∃ x y, ρ = [some (.hdl 0), some (.dat (.str w)), some (.dat (.str side)), x, y, none, none]) ∧ m' = m3)
    (fun d hd ρ m' hI => by
      obtain ⟨⟨x, y, rfl⟩, rfl⟩ := hI
      obtain ⟨s, rfl, hs⟩ := txL_ok (r := r) lw ls d hd
      obtain ⟨d, e⟩ := step0 (s := s) (m := m') (h := some (.hdl 0)) (a := some (.dat (.str w))) (b := some (.dat (.str side))) (y := y) (u := none) (v := none) hs
      exact ⟨_, _, rfl, _, _, .inl e, ⟨_, _, rfl⟩, rfl⟩)
    (ρ := [some (.hdl 0), some (.dat (.str w)), some (.dat (.str side)), none, none, none, none]) (m := m3) ⟨⟨_, _, rfl⟩, rfl⟩
  obtain ⟨ρ2, n2, f2, ⟨z2, rfl⟩, rfl⟩ := forAll (mg := gSet 5) (ds := badL w side) (body := l__law_right_1)
    (I := fun ρ m' => (∃ z, ρ = [some (.hdl 0), some (.dat (.str w)), some (.dat (.str side)), x1, y1, z, none]) ∧ m' = n1)
    (fun d hd ρ m' hI => by
      obtain ⟨⟨z, rfl⟩, rfl⟩ := hI
      have hh : (tyN d).isSome = true ∧ noS d = true := by
        simp only [badL, List.mem_cons, List.not_mem_nil, or_false] at hd
        rcases hd with rfl | rfl | rfl | rfl | rfl | rfl | rfl | rfl <;> exact ⟨rfl, rfl⟩
      exact ⟨_, _, rfl, _, _, .inl (step1 hh.1 hh.2), ⟨_, rfl⟩, rfl⟩)
    (ρ := [some (.hdl 0), some (.dat (.str w)), some (.dat (.str side)), x1, y1, none, none]) (m := n1) ⟨⟨_, rfl⟩, rfl⟩
  obtain ⟨ρ3, n3, f3, ⟨y3, z3, rfl⟩, rfl⟩ := forAll (mg := gSet 5) (ds := endL w side) (body := l__law_right_2)
    (I := fun ρ m' => (∃ y z, ρ = [some (.hdl 0), some (.dat (.str w)), some (.dat (.str side)), x1, y, z, some (.dat (.lst (endL w side)))]) ∧ m' = n2)
    (fun d hd ρ m' hI => by
      obtain ⟨⟨y, z, rfl⟩, rfl⟩ := hI
      obtain ⟨hA, he⟩ := endL_ok lw ls d hd
      obtain ⟨d2, e⟩ := step2 (d := d) (m := m') (h := some (.hdl 0)) (a := some (.dat (.str w))) (b := some (.dat (.str side))) (x := x1) (y := y) (v := some (.dat (.lst (endL w side)))) hA he
      exact ⟨_, _, rfl, _, _, .inl e, ⟨_, _, rfl⟩, rfl⟩)
    (ρ := [some (.hdl 0), some (.dat (.str w)), some (.dat (.str side)), x1, y1, z2, some (.dat (.lst (endL w side)))]) (m := n2) ⟨⟨_, _, rfl⟩, rfl⟩
  refine ⟨n3, ?_⟩
  have b3 : (Str.ofString ".").length = 1 := rfl
  simp only [badL] at f2
  simp only [endL] at f3
  simp (disch := omega) [F__law_right, mFn_ap, m__law_right, N__law_right, e1, s1.take, e2', s2.take, e3, s3.take, f1, f2, f3, strLen_append, b3, if_pos]
theorem law_ok (ns : List Int) (_ : ns.length ≤ 63) (_ : ∀ z ∈ ns, Builtin.Int.intBits z ≤ 1048576) : ∃ m', F_law [.dat (.lst (ns.map .int))] [] = some (.ok (.dat (.bl true)), m') := by
  refine round_ok (p := PP) (N := N_law) rfl hPot (fun h hl => right_ok h hl) (j := if (if (4 : Int) < ns.length then 4 else (ns.length : Int)) > 1 then (if (4 : Int) < ns.length then 4 else (ns.length : Int)) else 1) ?_ ?_ ?_
  · repeat' split <;> omega
  · repeat' split <;> omega
  · simp
end Lw
set_option maxHeartbeats 0
namespace Lw
open PySem PySem.Spec PyProof.Rows L2 Dm
theorem facts {P : Program} {w : World} {K : PySem.W.Frag} {h : Heap} {mg : Str → Option Value} {f : Addr} (X : K.In h) (G : h.Ns mainGlobals mg) (hfa : mg ("law" : Str) = some (.ref f)) (Z : Dm.SaysZ fa fn exq pgs tabs K h) :
    ∃ fd : FuncData, (∀ (s : Shared) (v : Value), BindsTo s fd ⟨[v], []⟩ [("_law_script", v)]) ∧ ∀ bs : Heap, Bs K mg (tabsOf K) bs → FnG P w K mg bs 8 f fd ["_law_script"] (spM K 1 F_law) := by
  have c := Z.y.d
  obtain ⟨TX, TO⟩ := Bool.and_eq_true_iff.mp (show (Dm.exAll rows owns tys K && (Dm.ownB ocl K && Dm.exmB rows hcls K)) = true from Z.y.ex)
  obtain ⟨TO, TE⟩ := Bool.and_eq_true_iff.mp TO
  obtain ⟨fd, F⟩ := c.def_ 16 rfl
  have e := hfa.symm.trans (He.glo_ok X G (c.fact 16 (f := .glo "law") rfl))
  cases e
  have b := FunD.bindsA (ps := ["_law_script"]) F fun _ _ _ _ _ _ us hl => match us, hl with | [_], _ => rfl
  exact ⟨fd, fun s v => b s [v] rfl, fun bs b => ok_lawG (P := P) (w := w) (⟨c, b.kin, b.ns, b.sm⟩ : Tx fa fn K mg bs) TX TO Z.y.pg ⟨b, Z.tz⟩ TE F⟩
end Lw
open PySem PySem.W PySem.Calls PyProof.Rows
theorem PySem.Challenge.cw_surepins_k90_ends_in_texts_holds : PySem.Challenge.rw_surepins_k90_ends_in_texts.Holds := by
  w_on; o_law
  refine HandSHeadRun.head_any (r := OpenLaw.row PySem.Challenge.rw_surepins_k90_ends_in_texts) (q := view (OpenLaw.row PySem.Challenge.rw_surepins_k90_ends_in_texts).prog [27]) (H := Lw.hk) (ob := Lw.ob) (M := 40000) (loose := Lw.loose) (d := HandSHeadRun.topDef (OpenLaw.row PySem.Challenge.rw_surepins_k90_ends_in_texts).prog 27) (kwd := []) Lw.ob_eq
    (by kernel_rfl) (fun s => by kernel_rfl) Lw.run (by kernel_rfl) (by kernel_rfl) (by kernel_rfl) (by rfl) (by first | assumption | decide +kernel) (by decide +kernel) ⟨rfl, rfl, rfl, rfl, rfl, by decide +kernel⟩ ?hw ?hc
  case hw => w_witness2
  case hc =>
    refine Dm.walk_ofG (l := PySem.Challenge.rw_surepins_k90_ends_in_texts) (n := 63) (k := 8) (x := "_law_script") rfl (by decide) (by kernel_rfl) ⟨rfl, by decide, by decide⟩ (by kernel_rfl) ?F
    intro w mg fa h Y G hmg0
    obtain ⟨K, c⟩ := Y
    have KX := c.inK
    have hmg : mg ("law" : PySem.Str) = some (.ref fa) := by
      have e : (HandSHeadRun.topDef (OpenLaw.row PySem.Challenge.rw_surepins_k90_ends_in_texts).prog 27).name = ("law" : PySem.Str) := by kernel_rfl
      rw [← e]
      exact hmg0
    obtain ⟨fd, hb, hF⟩ := Lw.facts (P := (PySem.Challenge.rw_surepins_k90_ends_in_texts).prog) (w := w) KX G hmg c
    exact ⟨K, Dm.tabsOf K, fd, Dm.spM K 1 Lw.F_law, KX, Dm.saysZ_tab c, hb, fun H a ns hl hbits ho hs => Dm.law_sp (fun ns hl hb => Lw.law_ok ns hl hb) H a ns hl hbits ho hs, hF⟩
