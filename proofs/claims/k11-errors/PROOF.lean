import PyProof.Rows.All
import Wide.All
import OpenK.AllK
import Wide.FinOn
import HandS.ForMost
import HandS.ForExc
import HandS.Defaults
import HandS.HeadHook2
import HandS.EndBits
import HandS.Evl
import KE.DataEq
import HandS.ExcInit
import HandS.Wide
import HandS.Style
import HandS.IsInst
import HandS.Text
import HandS.List
import HandS.Small
import PyProof.Rows.SeqMore
import HandS.WideBits
import HandS.Dict
import HandS.SetFor
import HandS.TupAny
import KE.SortData
import HandS.Exc
import KE.KExcInit
import HandS.ExcField
import KE.KExcIs
import KE.KExcMake
import HandS.DeepEq
import KE.KStateDown
import HandS.Base
import HandS.Call
import HandS.Ends
import HandS.More
import HandS.Words
import HandS.WordsExc
import HandS.Head0
import HandS.Head1
import HandS.Head2
import HandS.HeadEnd
import HandS.HeadHook1
import PySem.Challenge.RW_surepins_k11_errors
set_option Elab.async false
set_option linter.all false
set_option maxRecDepth 100000
/-! Dm, part 0: defs that are called where nothing is being shown (no repr runs around), and the law's end over such a def. -/
namespace Dm
open PySem PySem.Spec PyProof.Rows L2
/-- a def keeps its promise wherever no repr is on its way -/
structure FnG (P : Program) (w : World) (K : PySem.W.Frag) (mg : Str → Option Value) (bs : Heap) (k : Nat) (f : Addr) (fd : FuncData) (ps : List Str) (sp : Sp) : Prop where
  len : ∀ vs H Q E, sp vs H Q E → vs.length = ps.length
  run : ∀ (A : Around) (fr : List Env) (s : Shared) (H : Hp) (av : Args) (us : List Value) (vs : List V) (Q : VK) (E : XK), A.guards = some [] → Room k A → Env0 P w K mg bs A fr s H → BindsTo s fd av (ps.zip us) → Vals vs us → sp vs H Q E →
    codeAny (model P w) A (.call (.ref f) av) (CR (L2.CX P w) fr P w H s Q E) s
theorem FnG.mono {P : Program} {w : World} {K : PySem.W.Frag} {mg : Str → Option Value} {bs : Heap} {j k : Nat} {f : Addr} {fd : FuncData} {ps : List Str} {sp : Sp} (F : FnG P w K mg bs j f fd ps sp) (h : j ≤ k) : FnG P w K mg bs k f fd ps sp :=
  ⟨F.len, fun A fr s H av us vs Q E hG rm => F.run A fr s H av us vs Q E hG (rm.mono h)⟩
theorem fnG_of {P : Program} {w : World} {K : PySem.W.Frag} {mg : Str → Option Value} {bs : Heap} {k : Nat} {f : Addr} {nm qn : Str} {pr : Arguments} {bd : List Stmt} {sc : Scope} {x1 x2 x3 x4 cv x5 x6 : Value} {n1 n2 : Option Addr}
    {sl : Array (Option Value)} {N ps : List Str} {sp : Sp} (found : K.lookup f = some ⟨x6, n2, .func (PySem.W.fnOf nm qn pr bd sc x1 x2 x3 x4 n1 cv x5), sl⟩) (code : PySem.W.codeIn K cv qn = true) (S : FnScope N ps sc)
    (pl : ∀ vs H Q E, sp vs H Q E → vs.length = ps.length)
    (inside : ∀ (A : Around) (fr : List Env) (s : Shared) (H : Hp) (vs : List V) (Q : VK) (E : XK), A.guards = some [] → Room k (A.deeper (envOfC qn sc s.heap.objs.size f cv)) → sp vs H Q E →
      ∃ t, PSs (cxOf (L2.CX P w) P w K mg bs N qn sc f cv A fr s H E) bd t ∧ t { nx := fun _ H' => Q .non H', rt := Q } (L2.start N vs) H) :
    FnG P w K mg bs (k + 1) f (PySem.W.fnOf nm qn pr bd sc x1 x2 x3 x4 n1 cv x5) ps sp := by
  constructor
  · exact pl
  intro A fr s H av us vs Q E hG rm env0 hbt rel prom
  have old : ∀ b o, bs.get? b = some o → s.heap.get? b = some o := fun b o e => (env0.bs b o e).1
  have inK : K.In s.heap := env0.mod.kin.keeps old
  have noLim : s.heap.NoLimit := env0.mod.nolimit.keeps old
  have pk : ∀ y ∈ ps.zip us, sc.names.lookup y.1 = some .local ∨ (sc.names.lookup y.1 = some .cell ∧ ((cellsFrom (s.heap.objs.size + 1) sc.names []).lookup y.1).isSome = true) := by
    rintro ⟨a, b⟩ hm
    exact (S.par a (List.of_mem_zip hm).1).elim .inl fun z => .inr ⟨z, PySem.W.cellsFrom_some _ _ _ (.inl z)⟩
  refine codeAny_call_function rm.depth (inK _ _ found) rfl S.co S.gen rfl (PySem.W.codeRec_of inK code) (hbt _ _ _ _ ?_)
  refine wpAny_newFunctionEnv_cells S.kind pk fun en hen st1 inCall => ?_
  subst hen
  refine ⟨noLim.keeps inCall.toInCall.keep, codeAny_func ?_⟩
  obtain ⟨t, body, goes⟩ := inside A fr s H vs Q E hG (rm.deeper _) prom
  have J0 := inv_start (CX := L2.CX P w) (E := E) S rm.hd env0 (pl _ _ _ _ prom) rel inCall
  refine wpAny_mono (body.run [] st1 (L2.start N vs) H _ J0 goes) ?_ fun _ _ z => z
  intro fl st2 res
  match fl, res with
  | .ret u, ⟨v, _, H', J, rv, q⟩ => exact ⟨v, H', J.os, J.bare, J.base, J.hok, rv, q⟩
  | .next, ⟨_, H', J, q⟩ => exact ⟨V.non, H', J.os, J.bare, J.base, J.hok, rfl, q⟩
  | .brk, ⟨_, _, _, q⟩ => exact q.elim
  | .cont, ⟨_, _, _, q⟩ => exact q.elim

/-- the law's call, from such a promise -/
theorem law_callG {P : Program} {w : World} {K : PySem.W.Frag} {mg mb : Str → Option Value} {k : Nat} {fa a : Addr} {fd : FuncData} {x : Str} {sp : Sp} {s : Shared} {vs : List Value} {ns : List Int}
    (inK : K.In s.heap) (hmg : s.heap.Ns mainGlobals mg) (hmb : s.heap.Ns builtinsNs mb) (hbt : ∀ x : Str, x ≠ "__name__" → mb x = bootBuiltins x) (noLim : s.heap.NoLimit) (mods : ∃ mm, s.heap.Ns sysModules mm) (noGen : s.gens = #[])
    (obj : s.heap.get? a = some { cls := .type "list", data := .seq vs.toArray }) (inums : IntsAre vs ns) (small : ns.length ≤ sizeLine) (rm : Room k callerA)
    (F : ∀ bs : Heap, K.In bs → bs.Ns mainGlobals mg → (∃ mm, bs.Ns sysModules mm) → FnG P w K mg bs k fa fd [x] sp) (bind1 : ∀ (s : Shared) (u : Value), BindsTo s fd ⟨[u], []⟩ [(x, u)])
    (prom : ∀ H : Hp, Only H → SqL K H a (ns.map V.int) → sp [.ref a] H (fun v _ => v = .bl true) fun _ _ _ => False) (noX : ∀ H e s', L2.CX P w [] H s (fun _ _ _ => False) e s' → False) :
    codeAny (model P w) callerA (.call (.ref fa) ⟨[.ref a], []⟩) (fun r s' => r = .ok (.ret (.bool true)) ∧ OldK s.heap s'.heap ∧ s'.os = s.os ∧ AllBare s'.gens) s := by
  have rel := vals_ints inums
  have len := inums.length
  have go : ∀ H : Hp, Only H → SqL K H a (ns.map V.int) → HOk P w H s.heap → (∀ b, H b ≠ none → b = a) → (H a ≠ none → K.lookup a = none) →
      codeAny (model P w) callerA (.call (.ref fa) ⟨[.ref a], []⟩) (fun r s' => r = .ok (.ret (.bool true)) ∧ OldK s.heap s'.heap ∧ s'.os = s.os ∧ AllBare s'.gens) s := by
    intro H only sq ok alone notK
    have noDict : ∀ {b : Addr} {o : Obj} {es : Array DictEntry} {ep : Nat}, s.heap.get? b = some o → o.data = .dict es ep → H b = none := by
      intro b o es ep e d
      by_cases z : H b = none
      · exact z
      · have := alone b z
        subst this
        rw [obj] at e
        cases e
        have d' : Data.seq vs.toArray _ = Data.dict es ep := d
        cases d'
    have nsH : ∀ {b : Addr} {mm : Str → Option Value}, s.heap.Ns b mm → (hidT s.heap H).Ns b mm := by
      rintro b mm ⟨o, es, ep, e, d, r⟩
      exact ⟨o, es, ep, hidT_get e (noDict e d), d, r⟩
    have kIn : K.In (hidT s.heap H) := by
      intro b o e
      refine hidT_get (inK b o e) ?_
      by_cases z : H b = none
      · exact z
      · have := alone b z
        subst this
        rw [notK z] at e
        cases e
    have md : Mod K mg (hidT s.heap H) := by
      obtain ⟨mc, l1, l2⟩ := noLim
      exact ⟨kIn, nsH hmg, ⟨mb, nsH hmb, hbt⟩, ⟨mc, nsH l1, l2⟩⟩
    have en : Env0 P w K mg (hidT s.heap H) callerA [] s H := ⟨rfl, md, fun b o e => of_hidT e, Nat.le_of_eq (hidT_size _ _), trivial, fun b hb => absurd hb List.not_mem_nil, ok, .of_eq noGen⟩
    have run := (F _ kIn (nsH hmg) (let ⟨mm, z⟩ := mods; ⟨mm, nsH z⟩)).run callerA [] s H ⟨[.ref a], []⟩ [.ref a] [.ref a] _ _ rfl rm en (bind1 s (.ref a)) (.cons rfl .nil) (prom H only sq)
    refine codeAny_mono run fun r s' h => ?_
    match r, h with
    | .error e, h => exact (noX H e s' h).elim
    | .ok .next, h => exact h.elim
    | .ok .brk, h => exact h.elim
    | .ok .cont, h => exact h.elim
    | .ok (.ret u), ⟨v, H', os, bare, un, ok2, rv, q⟩ =>
      have vq : v = .bl true := q
      subst vq
      have uq : u = Value.bool true := rv
      subst uq
      refine ⟨rfl, OldK.of_keep fun b o e => ?_, os, bare⟩
      rcases only b with z | ⟨ob, xs, z⟩
      · exact un.keep b o e z List.not_mem_nil List.not_mem_nil
      · have e1 := (ok b _ z).1
        have e2 := (ok2 b _ (un.frzs b ob _ z)).1
        rw [e] at e1
        cases e1
        exact e2
  by_cases hk : K.lookup a = none
  · let H1 : Hp := fun b => if b = a then some (.frz { cls := .type "list", data := .seq vs.toArray } (.lst (ns.map V.int))) else none
    have at1 : H1 a = some (.frz { cls := .type "list", data := .seq vs.toArray } (.lst (ns.map V.int))) := if_pos rfl
    have off : ∀ b, b ≠ a → H1 b = none := fun b hb => if_neg hb
    refine go H1 (fun b => ?_) (.inl (.inr ⟨_, at1⟩)) (fun b u z => ?_) (fun b z => ?_) fun _ => hk
    · by_cases hb : b = a
      · subst hb; exact .inr ⟨_, _, at1⟩
      · exact .inl (off b hb)
    · by_cases hb : b = a
      · subst hb
        rw [at1] at z
        cases z
        exact ⟨obj, by rw [List.length_map]; exact small, vs, _, rel, obj⟩
      · rw [off b hb] at z; cases z
    · by_cases hb : b = a
      · exact hb
      · exact absurd (off b hb) z
  · obtain ⟨o, ho⟩ : ∃ o, K.lookup a = some o := by
      cases e : K.lookup a with
      | none => exact absurd e hk
      | some o => exact ⟨o, rfl⟩
    have e := inK a o ho
    rw [obj] at e
    cases e
    have none1 : ∀ b : Addr, (fun _ : Addr => (none : Option HO)) b = none := fun _ => rfl
    refine go (fun _ => none) (fun b => .inl rfl) (.inr ⟨_, vs.toArray, _, ho, rfl, rfl, rfl, ?_, by simpa using rel⟩) (fun b u z => by rw [none1 b] at z; cases z) (fun b z => absurd (none1 b) z) fun z => absurd (none1 a) z
    rw [List.size_toArray, len]
    exact small
/-- a law over facts read off the head, the script's bits told -/
theorem walk_ofG {l : PySem.W.OpenLaw} {n k : Nat} {q : Program} {loose : List Str} {XP : (Str → Option Value) → Heap → Prop} {YP : World → Heap → Prop} {d : DefRec} {x : Str}
    (most : l.most = some n) (hn : n ≤ sizeLine) (nodef : d.params.defaults = []) (rm : Room k callerA) (plain : importsNone q = true)
    (F : ∀ (w : World) (mg : Str → Option Value) (fa : Addr) (h : Heap), YP w h → h.Ns mainGlobals mg → mg d.name = some (.ref fa) →
      ∃ (K : PySem.W.Frag) (fd : FuncData) (sp : Sp), K.In h ∧ (∀ (s : Shared) (u : Value), BindsTo s fd ⟨[u], []⟩ [(x, u)]) ∧
        (∀ (H : Hp) (a : Addr) (ns : List Int), ns.length ≤ n → (∀ z ∈ ns, Builtin.Int.intBits z ≤ 1048576) → Only H → SqL K H a (ns.map V.int) → sp [.ref a] H (fun v _ => v = .bl true) fun _ _ _ => False) ∧
        ∀ bs : Heap, K.In bs → bs.Ns mainGlobals mg → (∃ mm, bs.Ns sysModules mm) → FnG l.prog w K mg bs k fa fd [x] sp) :
    PySem.W.WalkO q loose XP YP l.row.toRowW d [] (fun f vs => PySem.call f vs) := by
  refine Att.attach_callB most nodef ?_
  intro w t0 t1 mg mb fa o y1 y2 y3 a vs ns G Y ho hd hcd hmg obj inums len bits noGen
  obtain ⟨K, fd, sp, inK, bind1, prom, hF⟩ := F w mg fa _ Y G.T.g hmg
  exact law_callG inK G.T.g G.T.b G.T.builtins G.T.nolimit (let ⟨mm, z, _⟩ := (G.T.seer plain).mods; ⟨mm, z⟩) noGen obj inums (Nat.le_trans len hn) rm hF bind1 (fun H hO hS => prom H a ns len bits hO hS) fun H e s' h => by
    obtain ⟨_, _, _, _, _, _, _, _, _, _, _, _, z⟩ := h
    exact z
end Dm
/-! Dm, part 1: data, what stands for data, the memory of handles, what a mirror is. -/
namespace Dm
open PySem PySem.Spec PyProof.Rows L2
open Evl (Ex)

/-! ### data -/
inductive D where
  | non | bl (b : Bool) | int (i : Int) | str (x : Str) | ty (n : String) | cl (c : Str)
  | tup (ds : List D) | lst (ds : List D) | dct (es : List (D × D)) | obj (c : Str) (fs : List (Str × D)) | exc (c : Str) (fs : List (Str × D))
  deriving Inhabited

/-- a slot's value: data, or a handle -/
inductive W where
  | dat (d : D) | hdl (k : Nat)
  deriving Inhabited
/-- a mutable object -/
inductive Cell where
  | lst (ds : List D) | dct (es : List (D × D)) | obj (c : Str) (fs : List (Str × D)) | dead
  deriving Inhabited
def Cell.isDead : Cell → Bool
  | .dead => true
  | _ => false
abbrev Mem := List Cell
abbrev Slots := List (Option W)

def Cell.d : Cell → Option D
  | .lst ds => some (.lst ds)
  | .dct es => some (.dct es)
  | .obj c fs => some (.obj c fs)
  | .dead => none
/-- what is read there -/
def view (m : Mem) : W → Option D
  | .dat d => some d
  | .hdl k => (m[k]?).bind Cell.d

def kD : Key → D
  | .inl i => .int i
  | .inr x => .str x

/-! ### what stands for data, in the frozen heap B -/
section
variable (K : PySem.W.Frag) (B : Hp)
mutual
inductive Rep : V → D → Prop
  | non : Rep .non .non
  | bl (b) : Rep (.bl b) (.bl b)
  | int (i) : Rep (.int i) (.int i)
  | str (x) : Rep (.str x) (.str x)
  | ty (n) : Rep (.ty n) (.ty n)
  | cl (c) : Rep (.ref (He.ga K c)) (.cl c)
  | tup {a vs ds} : SqT K B a vs → Reps vs ds → Rep (.ref a) (.tup ds)
  | lst {a vs ds} : SqL K B a vs → Reps vs ds → Rep (.ref a) (.lst ds)
  | dct {a kvs es} : Rd B a (.dK kvs) → RepK kvs es → Rep (.ref a) (.dct es)
  | dctT {a kvs es} : Rd B a (.dT kvs) → RepT kvs es → Rep (.ref a) (.dct es)
  | obj {c a dx gs fs} : B a = some (.ins (He.ga K c) dx gs) → RepF gs fs → Rep (.ref a) (.obj c fs)
  | exc0 {c a} : B a = some (exo a (He.ga K c) none) → Rep (.ref a) (.exc c [])
  | exc {c a dx gs fs} : B a = some (exo a (He.ga K c) (some dx)) → B dx = some (exd dx gs) → RepF gs fs → Rep (.ref a) (.exc c fs)
inductive Reps : List V → List D → Prop
  | nil : Reps [] []
  | cons {v d vs ds} : Rep v d → Reps vs ds → Reps (v :: vs) (d :: ds)
inductive RepK : List (Key × V) → List (D × D) → Prop
  | nil : RepK [] []
  | cons {k v d r es} : Rep v d → RepK r es → RepK ((k, v) :: r) ((kD k, d) :: es)
inductive RepT : List (List Key × V) → List (D × D) → Prop
  | one {k v d} : Rep v d → RepT [(k, v)] [(.tup (k.map kD), d)]
  | cons {k v d r es} : Rep v d → RepT r es → RepT ((k, v) :: r) ((.tup (k.map kD), d) :: es)
inductive RepF : List (Str × V) → List (Str × D) → Prop
  | nil : RepF [] []
  | cons {x v d r fs} : Rep v d → RepF r fs → RepF ((x, v) :: r) ((x, d) :: fs)
end
end

theorem ex_rd {H H' : Hp} {a : Addr} {u : HO} (e : Ex H H') (h : Rd H a u) : Rd H' a u := Evl.ex_rd e h
section
variable {K : PySem.W.Frag} {B B' : Hp}
mutual
theorem Rep.mono (e : Ex B B') : ∀ {v d}, Rep K B v d → Rep K B' v d
  | _, _, .non => .non
  | _, _, .bl b => .bl b
  | _, _, .int i => .int i
  | _, _, .str x => .str x
  | _, _, .ty n => .ty n
  | _, _, .cl c => .cl c
  | _, _, .tup h r => .tup (Evl.ex_t e h) (Reps.mono e r)
  | _, _, .lst h r => .lst (Evl.ex_l e h) (Reps.mono e r)
  | _, _, .dct h r => .dct (ex_rd e h) (RepK.mono e r)
  | _, _, .dctT h r => .dctT (ex_rd e h) (RepT.mono e r)
  | _, _, .obj h r => .obj (e _ _ h) (RepF.mono e r)
  | _, _, .exc0 h => .exc0 (e _ _ h)
  | _, _, .exc h h2 r => .exc (e _ _ h) (e _ _ h2) (RepF.mono e r)
theorem Reps.mono (e : Ex B B') : ∀ {v d}, Reps K B v d → Reps K B' v d
  | _, _, .nil => .nil
  | _, _, .cons r rs => .cons (Rep.mono e r) (Reps.mono e rs)
theorem RepK.mono (e : Ex B B') : ∀ {v d}, RepK K B v d → RepK K B' v d
  | _, _, .nil => .nil
  | _, _, .cons r rs => .cons (Rep.mono e r) (RepK.mono e rs)
theorem RepT.mono (e : Ex B B') : ∀ {v d}, RepT K B v d → RepT K B' v d
  | _, _, .one r => .one (Rep.mono e r)
  | _, _, .cons r rs => .cons (Rep.mono e r) (RepT.mono e rs)
theorem RepF.mono (e : Ex B B') : ∀ {v d}, RepF K B v d → RepF K B' v d
  | _, _, .nil => .nil
  | _, _, .cons r rs => .cons (Rep.mono e r) (RepF.mono e rs)
end
theorem Reps.length : ∀ {vs ds}, Reps K B vs ds → vs.length = ds.length
  | _, _, .nil => rfl
  | _, _, .cons _ rs => congrArg (· + 1) (Reps.length rs)
theorem Reps.get : ∀ {vs ds} {i : Nat} {d : D}, Reps K B vs ds → ds[i]? = some d → ∃ v, vs[i]? = some v ∧ Rep K B v d
  | _, _, _, _, .nil, e => by simp at e
  | _, _, 0, _, .cons r _, e => by simp at e; subst e; exact ⟨_, rfl, r⟩
  | _, _, i + 1, _, .cons _ rs, e => by
    obtain ⟨v, h1, h2⟩ := Reps.get (i := i) rs (by simpa using e)
    exact ⟨v, by simpa using h1, h2⟩
theorem Reps.getV : ∀ {vs ds} {i : Nat} {v : V}, Reps K B vs ds → vs[i]? = some v → ∃ d, ds[i]? = some d ∧ Rep K B v d
  | _, _, _, _, .nil, e => by simp at e
  | _, _, 0, _, .cons r _, e => by simp at e; subst e; exact ⟨_, rfl, r⟩
  | _, _, i + 1, _, .cons _ rs, e => by
    obtain ⟨v, h1, h2⟩ := Reps.getV (i := i) rs (by simpa using e)
    exact ⟨v, by simpa using h1, h2⟩
theorem Reps.append : ∀ {vs ds us es}, Reps K B vs ds → Reps K B us es → Reps K B (vs ++ us) (ds ++ es)
  | _, _, _, _, .nil, s => s
  | _, _, _, _, .cons r rs, s => .cons r (Reps.append rs s)
theorem Reps.take : ∀ {vs ds} (n : Nat), Reps K B vs ds → Reps K B (vs.take n) (ds.take n)
  | _, _, 0, _ => .nil
  | _, _, _ + 1, .nil => .nil
  | _, _, n + 1, .cons r rs => .cons r (Reps.take n rs)
theorem Reps.drop : ∀ {vs ds} (n : Nat), Reps K B vs ds → Reps K B (vs.drop n) (ds.drop n)
  | _, _, 0, r => r
  | _, _, _ + 1, .nil => .nil
  | _, _, n + 1, .cons _ rs => Reps.drop n rs
theorem Reps.set {v : V} {d : D} (r : Rep K B v d) : ∀ {vs ds} (i : Nat), Reps K B vs ds → Reps K B (vs.set i v) (ds.set i d)
  | _, _, _, .nil => .nil
  | _, _, 0, .cons _ t => .cons r t
  | _, _, i + 1, .cons q t => .cons q (Reps.set r i t)
theorem Reps.reverse : ∀ {vs ds}, Reps K B vs ds → Reps K B vs.reverse ds.reverse
  | _, _, .nil => .nil
  | _, _, .cons r rs => by
    rw [List.reverse_cons, List.reverse_cons]
    exact (Reps.reverse rs).append (.cons r .nil)
end

/-! ### the memory: handle k stands at al k -/
/-- where the handles stand; what stands besides that nobody here touches -/
structure Pl where
  at_ : Nat → Addr
  fr : Hp
instance : CoeFun Pl (fun _ => Nat → Addr) := ⟨Pl.at_⟩
section
variable (K : PySem.W.Frag)
def RepC (B H : Hp) (a : Addr) : Cell → Prop
  | .lst ds => ∃ vs, H a = some (.lst vs) ∧ Reps K B vs ds
  | .dct es => (∃ kvs, H a = some (.dK kvs) ∧ RepK K B kvs es) ∨ ∃ kvs, H a = some (.dT kvs) ∧ RepT K B kvs es
  | .obj c fs => ∃ dx gs, H a = some (.ins (He.ga K c) dx gs) ∧ RepF K B gs fs
  | .dead => True
structure Wd (B : Hp) (al : Pl) (m : Mem) (H : Hp) : Prop where
  ext : Ex B H
  cell : ∀ k c, m[k]? = some c → c.isDead = false → B (al k) = none ∧ RepC K B H (al k) c
  inj : ∀ j k c c', m[j]? = some c → m[k]? = some c' → c.isDead = false → c'.isDead = false → al j = al k → j = k
  fx : Ex al.fr H
  fb : ∀ a, al.fr a ≠ none → B a = none
  fc : ∀ k c, m[k]? = some c → c.isDead = false → al.fr (al k) = none
def RepW (B : Hp) (al : Pl) (n : Nat) (v : V) : W → Prop
  | .dat d => Rep K B v d
  | .hdl k => v = .ref (al k) ∧ k < n
def RepS (B : Hp) (al : Pl) (n : Nat) (σ : L2.St) (ρ : Slots) : Prop :=
  σ.length = ρ.length ∧ ∀ (i : Nat) w, ρ[i]? = some (some w) → ∃ v, σ[i]? = some (some v) ∧ RepW K B al n v w
end
/-- the handles below n stand where they stood -/
structure Agr (n : Nat) (al al' : Pl) : Prop where
  at_ : ∀ k, k < n → al' k = al k
  fr : al'.fr = al.fr
theorem Agr.refl {n : Nat} {al : Pl} : Agr n al al := ⟨fun _ _ => rfl, rfl⟩
theorem Agr.trans {n m : Nat} {a b c : Pl} (h : Agr n a b) (g : Agr m b c) (hl : n ≤ m) : Agr n a c := ⟨fun k hk => (g.at_ k (Nat.lt_of_lt_of_le hk hl)).trans (h.at_ k hk), g.fr.trans h.fr⟩
section
variable {K : PySem.W.Frag} {B B' : Hp} {al al' : Pl} {n n' : Nat}
theorem RepW.mono (e : Ex B B') (g : Agr n al al') (hl : n ≤ n') {v : V} {w : W} (h : RepW K B al n v w) : RepW K B' al' n' v w := by
  cases w with
  | dat d => exact Rep.mono e h
  | hdl k => exact ⟨by rw [g.at_ k h.2]; exact h.1, Nat.lt_of_lt_of_le h.2 hl⟩
theorem RepS.mono (e : Ex B B') (g : Agr n al al') (hl : n ≤ n') {σ : L2.St} {ρ : Slots} (h : RepS K B al n σ ρ) : RepS K B' al' n' σ ρ :=
  ⟨h.1, fun i w hw => let ⟨v, h1, h2⟩ := h.2 i w hw; ⟨v, h1, h2.mono e g hl⟩⟩
theorem RepS.set {σ : L2.St} {ρ : Slots} (h : RepS K B al n σ ρ) {i : Nat} {v : V} {w : W} (r : RepW K B al n v w) : RepS K B al n (σ.set i (some v)) (ρ.set i (some w)) := by
  refine ⟨by rw [List.length_set, List.length_set, h.1], fun j u hu => ?_⟩
  by_cases e : i = j
  · subst e
    by_cases hl : i < ρ.length
    · rw [List.getElem?_set_self hl] at hu
      have : w = u := by simpa using hu
      subst this
      exact ⟨v, by rw [List.getElem?_set_self (by rw [h.1]; exact hl)], r⟩
    · rw [List.getElem?_eq_none (by simpa using hl)] at hu; cases hu
  · rw [List.getElem?_set_ne e] at hu
    obtain ⟨v', h1, h2⟩ := h.2 j u hu
    exact ⟨v', by rw [List.getElem?_set_ne e]; exact h1, h2⟩
theorem RepS.wipe {σ : L2.St} {ρ : Slots} (h : RepS K B al n σ ρ) (i : Nat) (o : Option V) : RepS K B al n (σ.set i o) (ρ.set i none) := by
  refine ⟨by rw [List.length_set, List.length_set, h.1], fun j u hu => ?_⟩
  by_cases e : i = j
  · subst e
    by_cases hl : i < ρ.length
    · rw [List.getElem?_set_self hl] at hu; cases hu
    · rw [List.getElem?_eq_none (by simpa using hl)] at hu; cases hu
  · rw [List.getElem?_set_ne e] at hu
    obtain ⟨v', h1, h2⟩ := h.2 j u hu
    exact ⟨v', by rw [List.getElem?_set_ne e]; exact h1, h2⟩
theorem Wd.take {m : Mem} {H : Hp} (h : Wd K B al m H) (j : Nat) : Wd K B al (m.take j) H := by
  have g : ∀ k c, (m.take j)[k]? = some c → m[k]? = some c := fun k c e => by
    rw [List.getElem?_take] at e
    split at e
    · exact e
    · cases e
  exact ⟨h.ext, fun k c e => h.cell k c (g k c e), fun i k c c' e e' => h.inj i k c c' (g i c e) (g k c' e'), h.fx, h.fb, fun k c e => h.fc k c (g k c e)⟩
end

/-! ### what is seen: the top may be a handle's, what lies within is frozen -/
def Vw (K : PySem.W.Frag) (B H : Hp) (v : V) : D → Prop
  | .lst ds => ∃ a vs, v = .ref a ∧ SqL K H a vs ∧ Reps K B vs ds
  | .tup ds => ∃ a vs, v = .ref a ∧ (SqT K H a vs ∧ SqT K B a vs) ∧ Reps K B vs ds
  | .dct es => ∃ a, v = .ref a ∧ ((∃ kvs, Rd H a (.dK kvs) ∧ RepK K B kvs es) ∨ ∃ kvs, Rd H a (.dT kvs) ∧ RepT K B kvs es)
  | .obj c fs => ∃ a dx gs, v = .ref a ∧ H a = some (.ins (He.ga K c) dx gs) ∧ RepF K B gs fs
  | d => Rep K B v d
section
variable {K : PySem.W.Frag} {B H : Hp} {al : Pl} {m : Mem}
theorem Rep.vw (e : Ex B H) {v : V} {d : D} (h : Rep K B v d) : Vw K B H v d := by
  cases h with
  | non => exact .non
  | bl b => exact .bl b
  | int i => exact .int i
  | str x => exact .str x
  | ty n => exact .ty n
  | cl c => exact .cl c
  | tup q r => exact ⟨_, _, rfl, ⟨Evl.ex_t e q, q⟩, r⟩
  | lst q r => exact ⟨_, _, rfl, Evl.ex_l e q, r⟩
  | dct q r => exact ⟨_, rfl, .inl ⟨_, ex_rd e q, r⟩⟩
  | dctT q r => exact ⟨_, rfl, .inr ⟨_, ex_rd e q, r⟩⟩
  | obj q r => exact ⟨_, _, _, rfl, e _ _ q, r⟩
  | exc0 q => exact .exc0 q
  | exc q q2 r => exact .exc q q2 r
theorem Vw.rep (e : Ex B H) {v : V} {d : D} (h : Vw K B H v d) : Rep K H v d := by
  cases d with
  | lst ds =>
    obtain ⟨a, vs, rfl, q, r⟩ := h
    exact .lst q (r.mono e)
  | tup ds =>
    obtain ⟨a, vs, rfl, q, r⟩ := h
    exact .tup q.1 (r.mono e)
  | dct es =>
    obtain ⟨a, rfl, ⟨kvs, q, r⟩ | ⟨kvs, q, r⟩⟩ := h
    · exact .dct q (r.mono e)
    · exact .dctT q (r.mono e)
  | obj c fs =>
    obtain ⟨a, dx, gs, rfl, q, r⟩ := h
    exact .obj q (r.mono e)
  | _ => exact Rep.mono e h
theorem Wd.view (wd : Wd K B al m H) {n : Nat} {v : V} {w : W} {d : D} (r : RepW K B al n v w) (h : view m w = some d) : Vw K B H v d := by
  cases w with
  | dat d' =>
    cases h
    exact Rep.vw wd.ext r
  | hdl k =>
    obtain ⟨rfl, _⟩ := r
    have h' : (m[k]?).bind Cell.d = some d := h
    cases e : m[k]? with
    | none => rw [e] at h'; cases h'
    | some c =>
      rw [e] at h'
      have h2 : c.d = some d := h'
      cases c with
      | dead => cases h2
      | lst ds =>
        cases h2
        obtain ⟨_, vs, q, rs⟩ := wd.cell k _ e rfl
        exact ⟨_, vs, rfl, .inl (.inl q), rs⟩
      | dct es =>
        cases h2
        obtain ⟨_, ⟨kvs, q, rs⟩ | ⟨kvs, q, rs⟩⟩ := wd.cell k _ e rfl
        · exact ⟨_, rfl, .inl ⟨kvs, .inl q, rs⟩⟩
        · exact ⟨_, rfl, .inr ⟨kvs, .inl q, rs⟩⟩
      | obj c fs =>
        cases h2
        obtain ⟨_, dx, gs, q, rs⟩ := wd.cell k _ e rfl
        exact ⟨_, dx, gs, rfl, q, rs⟩
end

/-! ### growing: new objects alone -/
structure Gr (B B' H H' : Hp) : Prop where
  b : Ex B B'
  h : Ex H H'
  bh : Ex B' H'
  new : ∀ a, H a ≠ none → B a = none → B' a = none
theorem Gr.refl {B H : Hp} (e : Ex B H) : Gr B B H H := ⟨Ex.refl _, Ex.refl _, e, fun _ _ h => h⟩
theorem Gr.trans {B B1 B2 H H1 H2 : Hp} (a : Gr B B1 H H1) (b : Gr B1 B2 H1 H2) : Gr B B2 H H2 :=
  ⟨a.b.trans b.b, a.h.trans b.h, b.bh, fun x hx hb => b.new x (by
    cases e : H x with
    | none => exact absurd e hx
    | some o => rw [a.h x o e]; simp) (a.new x hx hb)⟩
theorem Gr.lay {B H : Hp} (e : Ex B H) {p : Addr} {o : HO} (hp : H p = none) : Gr B (upd B p o) H (upd H p o) := by
  have hb : B p = none := by
    cases q : B p with
    | none => rfl
    | some u => rw [e p u q] at hp; cases hp
  refine ⟨Ex.new hb, Ex.new hp, fun a u h => ?_, fun a ha h => ?_⟩
  · by_cases z : a = p
    · subst z; rw [upd_same] at h ⊢; exact h
    · rw [upd_ne z] at h ⊢; exact e a u h
  · by_cases z : a = p
    · subst z; exact absurd hp ha
    · rw [upd_ne z]; exact h
/-- laid, but not for what is frozen -/
theorem Gr.by {B H : Hp} (e : Ex B H) {p : Addr} {o : HO} (hp : H p = none) : Gr B B H (upd H p o) :=
  ⟨Ex.refl _, Ex.new hp, e.trans (Ex.new hp), fun _ _ h => h⟩
section
variable {K : PySem.W.Frag} {B B' H H' : Hp} {al : Pl} {m : Mem}
theorem Wd.grow (wd : Wd K B al m H) (g : Gr B B' H H') : Wd K B' al m H' := by
  refine ⟨g.bh, fun k c e hd => ?_, wd.inj, wd.fx.trans g.h, fun a ha => g.new a (fun z => ?_) (wd.fb a ha), wd.fc⟩
  rotate_left
  · cases e : al.fr a with
    | none => exact ha e
    | some o => have := wd.fx a o e; rw [z] at this; cases this
  obtain ⟨h1, h2⟩ := wd.cell k c e hd
  cases c with
  | dead => cases hd
  | lst ds =>
    obtain ⟨vs, q, r⟩ := h2
    exact ⟨g.new _ (by rw [q]; simp) h1, vs, g.h _ _ q, r.mono g.b⟩
  | dct es =>
    obtain ⟨kvs, q, r⟩ | ⟨kvs, q, r⟩ := h2
    · exact ⟨g.new _ (by rw [q]; simp) h1, .inl ⟨kvs, g.h _ _ q, r.mono g.b⟩⟩
    · exact ⟨g.new _ (by rw [q]; simp) h1, .inr ⟨kvs, g.h _ _ q, r.mono g.b⟩⟩
  | obj c fs =>
    obtain ⟨dx, gs, q, r⟩ := h2
    exact ⟨g.new _ (by rw [q]; simp) h1, dx, gs, g.h _ _ q, r.mono g.b⟩
end
end Dm
/-! Dm, part 2: expressions, tests, arguments. -/
namespace Dm
open PySem PySem.Spec PyProof.Rows L2
open Evl (Ex)

inductive Out (α : Type) where
  | ok (a : α) | ex (c : Str) (fs : List (Str × D))
abbrev Run (α : Type) := Option (Out α × Mem)
abbrev EM := Slots → Mem → Run W
abbrev TM := Slots → Mem → Run Bool
abbrev AM := Slots → Mem → Run (List W)
def ret {α : Type} (a : α) (m : Mem) : Run α := some (.ok a, m)
def rd (d : D) (m : Mem) : Run W := some (.ok (.dat d), m)
def bnd {α β : Type} (x : Run α) (k : α → Mem → Run β) : Run β := match x with
  | none => none
  | some (.ok a, m) => k a m
  | some (.ex c fs, m) => some (.ex c fs, m)
@[simp] theorem bnd_ok {α β : Type} (a : α) (m : Mem) (k : α → Mem → Run β) : bnd (some (.ok a, m)) k = k a m := rfl
@[simp] theorem bnd_ret {α β : Type} (a : α) (m : Mem) (k : α → Mem → Run β) : bnd (ret a m) k = k a m := rfl
@[simp] theorem bnd_rd {β : Type} (d : D) (m : Mem) (k : W → Mem → Run β) : bnd (rd d m) k = k (.dat d) m := rfl
@[simp] theorem bnd_none {α β : Type} (k : α → Mem → Run β) : bnd (none : Run α) k = none := rfl
@[simp] theorem bnd_ex {α β : Type} (c : Str) (fs : List (Str × D)) (m : Mem) (k : α → Mem → Run β) : bnd (some (.ex c fs, m)) k = some (.ex c fs, m) := rfl

/-! ### ends -/
def AnsW (K : PySem.W.Frag) (B : Hp) (al : Pl) (n : Nat) (w : W) (m' : Mem) (Q : VK) : Prop :=
  ∀ B' al' v H', Ex B B' → Agr n al al' → Wd K B' al' m' H' → RepW K B' al' m'.length v w → Q v H'
def RepX (K : PySem.W.Frag) (B : Hp) (cls : Value) (oa : Option Addr) (c : Str) (fs : List (Str × D)) : Prop :=
  cls = .ref (He.ga K c) ∧ ((oa = none ∧ fs = []) ∨ ∃ a gs, oa = some a ∧ B a = some (.xd gs) ∧ RepF K B gs fs)
def AnsX (K : PySem.W.Frag) (B : Hp) (al : Pl) (n : Nat) (c : Str) (fs : List (Str × D)) (m' : Mem) (E : XK) : Prop :=
  ∀ B' al' cls oa H', Ex B B' → Agr n al al' → Wd K B' al' m' H' → RepX K B' cls oa c fs → E cls oa H'
/-- where an exception goes -/
def Flies (X : Cx) (B : Hp) (al : Pl) (n : Nat) (σ : L2.St) (c : Str) (fs : List (Str × D)) (m' : Mem) : Prop :=
  ∃ Wx : WX, Takes X Wx ∧ AnsX X.K B al n c fs m' fun cls oa H' => Wx cls oa σ H'
def AnsE (X : Cx) (B : Hp) (al : Pl) (n : Nat) (σ : L2.St) (Q : VK) (m' : Mem) : Out W → Prop
  | .ok w => AnsW X.K B al n w m' Q
  | .ex c fs => Flies X B al n σ c fs m'
def AnsT (X : Cx) (B : Hp) (al : Pl) (n : Nat) (σ : L2.St) (Q : Bool → Hp → Prop) (m' : Mem) : Out Bool → Prop
  | .ok b => ∀ B' al' H', Ex B B' → Agr n al al' → Wd X.K B' al' m' H' → Q b H'
  | .ex c fs => Flies X B al n σ c fs m'
/-- values for slots' values -/
def RepL (K : PySem.W.Frag) (B : Hp) (al : Pl) (n : Nat) : List V → List W → Prop
  | [], [] => True
  | v :: vs, w :: ws => RepW K B al n v w ∧ RepL K B al n vs ws
  | _, _ => False
theorem RepL.mono {K : PySem.W.Frag} {B B' : Hp} {al al' : Pl} {n n' : Nat} (e : Ex B B') (g : Agr n al al') (hl : n ≤ n') : ∀ {vs : List V} {ws : List W}, RepL K B al n vs ws → RepL K B' al' n' vs ws
  | [], [], _ => trivial
  | _ :: _, _ :: _, h => ⟨h.1.mono e g hl, RepL.mono e g hl h.2⟩
  | [], _ :: _, h => h.elim
  | _ :: _, [], h => h.elim
theorem RepL.length {K : PySem.W.Frag} {B : Hp} {al : Pl} {n : Nat} : ∀ {vs : List V} {ws : List W}, RepL K B al n vs ws → vs.length = ws.length
  | [], [], _ => rfl
  | _ :: _, _ :: _, h => congrArg (· + 1) (RepL.length h.2)
  | [], _ :: _, h => h.elim
  | _ :: _, [], h => h.elim
def AnsA (X : Cx) (B : Hp) (al : Pl) (n : Nat) (σ : L2.St) (Q : List V → Hp → Prop) (m' : Mem) : Out (List W) → Prop
  | .ok ws => ∀ B' al' vs H', Ex B B' → Agr n al al' → Wd X.K B' al' m' H' → RepL X.K B' al' m'.length vs ws → Q vs H'
  | .ex c fs => Flies X B al n σ c fs m'
theorem Flies.mono {X : Cx} {B B' : Hp} {al al' : Pl} {n n' : Nat} {σ : L2.St} {c : Str} {fs : List (Str × D)} {m' : Mem} (e : Ex B B') (g : Agr n al al') (hl : n ≤ n') (h : Flies X B al n σ c fs m') : Flies X B' al' n' σ c fs m' :=
  let ⟨Wx, t, a⟩ := h
  ⟨Wx, t, fun B2 al2 cls oa H2 e2 g2 wd r => a B2 al2 cls oa H2 (e.trans e2) (g.trans g2 hl) wd r⟩

/-! ### an expression says what its mirror says -/
def wE (X : Cx) (e : Expr) : TE := fun σ H Q => ∀ (pins : List (Addr × Obj)) (s : Shared), Inv X pins σ H s → wpAny (model X.prog X.w) X.A (eval e X.env) (EP X pins σ Q) X.xe s
theorem pe_w {X : Cx} {e : Expr} : PE X e (wE X e) := ⟨fun pins s σ H Q I h => h pins s I⟩
def wT (X : Cx) (e : Expr) : TT := fun σ H Q => ∀ (pins : List (Addr × Obj)) (s : Shared), Inv X pins σ H s → wpAny (model X.prog X.w) X.A (isTrue e X.env (eval e X.env)) (TP X pins σ Q) X.xe s
theorem pt_w {X : Cx} {e : Expr} : PT X e (wT X e) := ⟨fun pins s σ H Q I h => h pins s I⟩
def wA (X : Cx) (es : List Expr) : TA := fun σ H Q => ∀ (pos : Pos) (pins : List (Addr × Obj)) (s : Shared), Inv X pins σ H s → wpAny (model X.prog X.w) X.A (spliced (backTo pos (starEach es X.env))) (AP X pins σ Q) X.xe s
theorem pa_w {X : Cx} {es : List Expr} : PA X es (wA X es) := ⟨fun pos pins s σ H Q I h => h pos pins s I⟩

structure SE (X : Cx) (e : Expr) (mm : EM) : Prop where
  len : ∀ ρ m o m', mm ρ m = some (o, m') → m.length ≤ m'.length
  run : ∀ ρ m o m', mm ρ m = some (o, m') → ∀ B al σ H Q, Wd X.K B al m H → RepS X.K B al m.length σ ρ → AnsE X B al m.length σ Q m' o → wE X e σ H Q
structure ST (X : Cx) (e : Expr) (mm : TM) : Prop where
  len : ∀ ρ m o m', mm ρ m = some (o, m') → m.length ≤ m'.length
  run : ∀ ρ m o m', mm ρ m = some (o, m') → ∀ B al σ H Q, Wd X.K B al m H → RepS X.K B al m.length σ ρ → AnsT X B al m.length σ Q m' o → wT X e σ H Q
structure SA (X : Cx) (es : List Expr) (mm : AM) : Prop where
  len : ∀ ρ m o m', mm ρ m = some (o, m') → m.length ≤ m'.length
  run : ∀ ρ m o m', mm ρ m = some (o, m') → ∀ B al σ H Q, Wd X.K B al m H → RepS X.K B al m.length σ ρ → AnsA X B al m.length σ Q m' o → wA X es σ H Q
/-- what was flying flies on -/
def Res (X : Cx) (B : Hp) (al : Pl) (n : Nat) (σ : L2.St) {α : Type} (m' : Mem) (o : Out α) : Prop := ∀ c fs, o = .ex c fs → Flies X B al n σ c fs m'
theorem AnsE.res {X : Cx} {B : Hp} {al : Pl} {n : Nat} {σ : L2.St} {Q : VK} {m' : Mem} {o : Out W} (h : AnsE X B al n σ Q m' o) : Res X B al n σ m' o := fun c fs e => by subst e; exact h
theorem AnsT.res {X : Cx} {B : Hp} {al : Pl} {n : Nat} {σ : L2.St} {Q : Bool → Hp → Prop} {m' : Mem} {o : Out Bool} (h : AnsT X B al n σ Q m' o) : Res X B al n σ m' o := fun c fs e => by subst e; exact h
theorem AnsA.res {X : Cx} {B : Hp} {al : Pl} {n : Nat} {σ : L2.St} {Q : List V → Hp → Prop} {m' : Mem} {o : Out (List W)} (h : AnsA X B al n σ Q m' o) : Res X B al n σ m' o := fun c fs e => by subst e; exact h
theorem bnd_cases {α β : Type} {x : Run α} {k : α → Mem → Run β} {o : Out β} {m' : Mem} (h : bnd x k = some (o, m')) : (∃ a m1, x = some (.ok a, m1) ∧ k a m1 = some (o, m')) ∨ ∃ c fs, x = some (.ex c fs, m') ∧ o = .ex c fs := by
  cases x with
  | none => cases h
  | some p =>
    obtain ⟨o1, m1⟩ := p
    cases o1 with
    | ok a => exact .inl ⟨a, m1, rfl, h⟩
    | ex c fs =>
      have e : (some (Out.ex c fs, m1) : Run β) = some (o, m') := h
      cases e
      exact .inr ⟨c, fs, rfl, rfl⟩
section
variable {X : Cx} {B : Hp} {al : Pl} {σ : L2.St} {H : Hp} {ρ : Slots} {m m' : Mem} {β : Type} {o : Out β}
theorem SE.seq {e : Expr} {mm : EM} {k : W → Mem → Run β} {Q' : VK} (h : SE X e mm) (hr : bnd (mm ρ m) k = some (o, m')) (wd : Wd X.K B al m H) (rs : RepS X.K B al m.length σ ρ) (hx : Res X B al m.length σ m' o)
    (hk : ∀ w m1, k w m1 = some (o, m') → m.length ≤ m1.length → AnsW X.K B al m.length w m1 Q') : wE X e σ H Q' := by
  rcases bnd_cases hr with ⟨w, m1, e1, e2⟩ | ⟨c, fs, e1, rfl⟩
  · exact h.run ρ m _ _ e1 B al σ H Q' wd rs (hk w m1 e2 (h.len _ _ _ _ e1))
  · exact h.run ρ m _ _ e1 B al σ H Q' wd rs (hx c fs rfl)
theorem ST.seq {e : Expr} {mm : TM} {k : Bool → Mem → Run β} {Q' : Bool → Hp → Prop} (h : ST X e mm) (hr : bnd (mm ρ m) k = some (o, m')) (wd : Wd X.K B al m H) (rs : RepS X.K B al m.length σ ρ) (hx : Res X B al m.length σ m' o)
    (hk : ∀ b m1, k b m1 = some (o, m') → m.length ≤ m1.length → ∀ B' al' H', Ex B B' → Agr m.length al al' → Wd X.K B' al' m1 H' → Q' b H') : wT X e σ H Q' := by
  rcases bnd_cases hr with ⟨w, m1, e1, e2⟩ | ⟨c, fs, e1, rfl⟩
  · exact h.run ρ m _ _ e1 B al σ H Q' wd rs (hk w m1 e2 (h.len _ _ _ _ e1))
  · exact h.run ρ m _ _ e1 B al σ H Q' wd rs (hx c fs rfl)
theorem SA.seq {es : List Expr} {mm : AM} {k : List W → Mem → Run β} {Q' : List V → Hp → Prop} (h : SA X es mm) (hr : bnd (mm ρ m) k = some (o, m')) (wd : Wd X.K B al m H) (rs : RepS X.K B al m.length σ ρ) (hx : Res X B al m.length σ m' o)
    (hk : ∀ ws m1, k ws m1 = some (o, m') → m.length ≤ m1.length → ∀ B' al' vs H', Ex B B' → Agr m.length al al' → Wd X.K B' al' m1 H' → RepL X.K B' al' m1.length vs ws → Q' vs H') : wA X es σ H Q' := by
  rcases bnd_cases hr with ⟨w, m1, e1, e2⟩ | ⟨c, fs, e1, rfl⟩
  · exact h.run ρ m _ _ e1 B al σ H Q' wd rs (hk w m1 e2 (h.len _ _ _ _ e1))
  · exact h.run ρ m _ _ e1 B al σ H Q' wd rs (hx c fs rfl)
theorem bnd_len {α : Type} {x : Run α} {k : α → Mem → Run β} (h : bnd x k = some (o, m')) (h1 : ∀ o1 m1, x = some (o1, m1) → m.length ≤ m1.length) (h2 : ∀ a m1, k a m1 = some (o, m') → m1.length ≤ m'.length) : m.length ≤ m'.length := by
  rcases bnd_cases h with ⟨w, m1, e1, e2⟩ | ⟨c, fs, e1, rfl⟩
  · exact Nat.le_trans (h1 _ _ e1) (h2 _ _ e2)
  · exact h1 _ _ e1
end
/-- what an expression is wished by is fulfilled more weakly -/
theorem wE.mono {X : Cx} {e : Expr} {σ : L2.St} {H : Hp} {Q Q' : VK} (h : wE X e σ H Q) (hq : ∀ v H', Q v H' → Q' v H') : wE X e σ H Q' := fun pins s I =>
  thn (h pins s I) fun _ _ ⟨v, H', I', r, q⟩ => ⟨v, H', I', r, hq v H' q⟩

/-! ### the plain ones -/
def mC (d : D) : EM := fun _ m => rd d m
def mVar (i : Nat) : EM := fun ρ m => match ρ[i]? with
  | some (some w) => ret w m
  | _ => none
section
variable {X : Cx}
theorem SE.ofC {e : Expr} {v : V} {d : D} (h : PE X e (tC v)) (r : ∀ B, Rep X.K B v d) : SE X e (mC d) := by
  refine ⟨fun ρ m o m' q => ?_, fun ρ m o m' q B al σ H Q wd rs ha pins s I => ?_⟩
  · cases q; exact Nat.le_refl _
  · cases q
    exact h.run pins s σ H Q I (ha B al v H (Ex.refl B) Agr.refl wd (r B))
theorem se_int {i : Int} {j : Nat} {pos : Pos} : SE X (.Constant (.int i) j pos) (mC (.int i)) := .ofC pe_int fun _ => .int i
theorem se_bl {b : Bool} {j : Nat} {pos : Pos} : SE X (.Constant (.bool b) j pos) (mC (.bl b)) := .ofC pe_bl fun _ => .bl b
theorem se_non {j : Nat} {pos : Pos} : SE X (.Constant .none j pos) (mC .non) := .ofC pe_non fun _ => .non
theorem se_str {x : Str} {j : Nat} {pos : Pos} : SE X (.Constant (.str x) j pos) (mC (.str x)) := .ofC pe_str fun _ => .str x
theorem se_var (i : Nat) {x : Str} {pos : Pos} (hN : X.N[i]? = some x) (hv : Vis X.env.scope x) (hd : (x == ("__debug__" : Str)) = false := by decide) (hcd : (x == ("__classdict__" : Str)) = false := by decide) : SE X (.Name x pos) (mVar i) := by
  refine ⟨fun ρ m o m' q => ?_, fun ρ m o m' q B al σ H Q wd rs ha pins s I => ?_⟩
  · unfold mVar at q
    split at q
    · cases q; exact Nat.le_refl _
    · cases q
  · unfold mVar at q
    split at q
    · next w e =>
      cases q
      obtain ⟨v, h1, h2⟩ := rs.2 i w e
      exact (pe_var hN hv hd hcd).run pins s σ H Q I ⟨v, h1, ha B al v H (Ex.refl B) Agr.refl wd h2⟩
    · cases q
end

/-! ### two operands -/
/-- an operation by values is what f says of data -/
def OpS (X : Cx) (r : R2) (f : D → D → Option D) : Prop :=
  ∀ (dx dy d : D), f dx dy = some d → ∀ (B H : Hp) (x y : V), Ex B H → Vw X.K B H x dx → Vw X.K B H y dy → ∀ Q : VK, (∀ B' v H', Gr B B' H H' → Rep X.K B' v d → Q v H') → r x y H Q
def ap2 (f : D → D → Option D) (x y : W) (m : Mem) : Run W := match view m x, view m y with
  | some dx, some dy => (match f dx dy with
    | some d => rd d m
    | none => none)
  | _, _ => none
theorem ap2_eq {f : D → D → Option D} {x y : W} {m : Mem} {o : Out W} {m' : Mem} (h : ap2 f x y m = some (o, m')) : ∃ dx dy d, view m x = some dx ∧ view m y = some dy ∧ f dx dy = some d ∧ o = .ok (.dat d) ∧ m' = m := by
  unfold ap2 at h
  split at h
  · next dx dy h1 h2 =>
    split at h
    · next d h3 =>
      cases h
      exact ⟨dx, dy, d, h1, h2, h3, rfl, rfl⟩
    · cases h
  · cases h
@[simp] theorem ap2_dat {f : D → D → Option D} {dx dy d : D} {m : Mem} (h : f dx dy = some d) : ap2 f (.dat dx) (.dat dy) m = rd d m := by
  show (match f dx dy with
    | some d => rd d m
    | none => none) = _
  rw [h]
def mOp (f : D → D → Option D) (ma mb : EM) : EM := fun ρ m => bnd (ma ρ m) fun x m1 => bnd (mb ρ m1) fun y m2 => ap2 f x y m2
section
variable {X : Cx} {a b : Expr} {ma mb : EM}
theorem op_len {f : D → D → Option D} (ha : SE X a ma) (hb : SE X b mb) : ∀ ρ m o m', mOp f ma mb ρ m = some (o, m') → m.length ≤ m'.length := fun ρ m o m' q =>
  bnd_len q (ha.len ρ m) fun x m1 q1 => bnd_len q1 (hb.len ρ m1) fun y m2 q2 => by
    obtain ⟨_, _, _, _, _, _, _, rfl⟩ := ap2_eq q2
    exact Nat.le_refl _
/-- the reading of two operands and what is done to them -/
theorem op_run {r : R2} {f : D → D → Option D} (hs : OpS X r f) (ha : SE X a ma) (hb : SE X b mb) {ρ : Slots} {m m' : Mem} {o : Out W} (q : mOp f ma mb ρ m = some (o, m')) {B : Hp} {al : Pl} {σ : L2.St} {H : Hp} {Q : VK}
    (wd : Wd X.K B al m H) (rs : RepS X.K B al m.length σ ρ) (h : AnsE X B al m.length σ Q m' o) : tOp r (wE X a) (wE X b) σ H Q := by
  refine ha.seq q wd rs h.res fun x m1 q1 l1 B1 al1 v1 H1 e1 g1 wd1 r1 => ?_
  refine hb.seq q1 wd1 (rs.mono e1 g1 l1) (fun c fs z => (h.res c fs z).mono e1 g1 l1) fun y m2 q2 l2 B2 al2 v2 H2 e2 g2 wd2 r2 => ?_
  obtain ⟨dx, dy, d, hx, hy, hf, rfl, rfl⟩ := ap2_eq q2
  refine hs dx dy d hf B2 H2 v1 v2 wd2.ext (wd2.view (r1.mono e2 g2 l2) hx) (wd2.view r2 hy) Q fun B3 v3 H3 g3 r3 => ?_
  exact h B3 al2 v3 H3 ((e1.trans e2).trans g3.b) (g1.trans g2 l1) (wd2.grow g3) r3
theorem se_op {op : Operator} {r : R2} {f : D → D → Option D} {pos : Pos} (ho : OpR X (binaryOp op) r) (hs : OpS X r f) (ha : SE X a ma) (hb : SE X b mb) : SE X (.BinOp a op b pos) (mOp f ma mb) :=
  ⟨op_len ha hb, fun ρ m o m' q B al σ H Q wd rs h pins s I => (pe_op ho pe_w pe_w).run pins s σ H Q I (op_run hs ha hb q wd rs h)⟩
theorem se_cmp {op : CmpOp} {r : R2} {f : D → D → Option D} {pos : Pos} (ho : OpR X (compareOp op) r) (hs : OpS X r f) (ha : SE X a ma) (hb : SE X b mb) (hm : behindInMarks op b = false) : SE X (.Compare a [op] [b] pos) (mOp f ma mb) :=
  ⟨op_len ha hb, fun ρ m o m' q B al σ H Q wd rs h pins s I => (pe_cmpR ho pe_w pe_w hm).run pins s σ H Q I (op_run hs ha hb q wd rs h)⟩
theorem se_ix {r : R2} {f : D → D → Option D} {pos : Pos} (ho : IxR X r) (hs : OpS X r f) (ha : SE X a ma) (hb : SE X b mb) (hp : PlainIx b) : SE X (.Subscript a b pos) (mOp f ma mb) :=
  ⟨op_len ha hb, fun ρ m o m' q B al σ H Q wd rs h pins s I => (pe_ix ho pe_w pe_w hp).run pins s σ H Q I (op_run hs ha hb q wd rs h)⟩
end
theorem OpS.or {X : Cx} {r r' : R2} {f g : D → D → Option D} (h : OpS X r f) (h' : OpS X r' g) : OpS X (fun x y H Q => r x y H Q ∨ r' x y H Q) (fun x y => match f x y with
    | some d => some d
    | none => g x y) := by
  intro dx dy d hf B H x y e hx hy Q q
  cases h1 : f dx dy with
  | some d' =>
    have hf' : (match f dx dy with
      | some d => some d
      | none => g dx dy) = some d := hf
    rw [h1] at hf'
    cases hf'
    exact .inl (h dx dy d h1 B H x y e hx hy Q q)
  | none =>
    have hf' : (match f dx dy with
      | some d => some d
      | none => g dx dy) = some d := hf
    rw [h1] at hf'
    exact .inr (h' dx dy d hf' B H x y e hx hy Q q)

/-! ### one operand -/
def UnS (X : Cx) (r : V → Hp → VK → Prop) (f : D → Option D) : Prop :=
  ∀ (dx d : D), f dx = some d → ∀ (B H : Hp) (x : V), Ex B H → Vw X.K B H x dx → ∀ Q : VK, (∀ B' v H', Gr B B' H H' → Rep X.K B' v d → Q v H') → r x H Q
def ap1 (f : D → Option D) (x : W) (m : Mem) : Run W := match view m x with
  | some dx => (match f dx with
    | some d => rd d m
    | none => none)
  | none => none
theorem ap1_eq {f : D → Option D} {x : W} {m : Mem} {o : Out W} {m' : Mem} (h : ap1 f x m = some (o, m')) : ∃ dx d, view m x = some dx ∧ f dx = some d ∧ o = .ok (.dat d) ∧ m' = m := by
  unfold ap1 at h
  split at h
  · next dx h1 =>
    split at h
    · next d h3 =>
      cases h
      exact ⟨dx, d, h1, h3, rfl, rfl⟩
    · cases h
  · cases h
def mUn (f : D → Option D) (ma : EM) : EM := fun ρ m => bnd (ma ρ m) fun x m1 => ap1 f x m1
section
variable {X : Cx} {a : Expr} {ma : EM}
theorem un_len {f : D → Option D} (ha : SE X a ma) : ∀ ρ m o m', mUn f ma ρ m = some (o, m') → m.length ≤ m'.length := fun ρ m o m' q =>
  bnd_len q (ha.len ρ m) fun x m1 q1 => by
    obtain ⟨_, _, _, _, _, rfl⟩ := ap1_eq q1
    exact Nat.le_refl _
theorem un_run {r : V → Hp → VK → Prop} {f : D → Option D} (hs : UnS X r f) (ha : SE X a ma) {ρ : Slots} {m m' : Mem} {o : Out W} (q : mUn f ma ρ m = some (o, m')) {B : Hp} {al : Pl} {σ : L2.St} {H : Hp} {Q : VK}
    (wd : Wd X.K B al m H) (rs : RepS X.K B al m.length σ ρ) (h : AnsE X B al m.length σ Q m' o) : tUn r (wE X a) σ H Q := by
  refine ha.seq q wd rs h.res fun x m1 q1 l1 B1 al1 v1 H1 e1 g1 wd1 r1 => ?_
  obtain ⟨dx, d, hx, hf, rfl, rfl⟩ := ap1_eq q1
  refine hs dx d hf B1 H1 v1 wd1.ext (wd1.view r1 hx) Q fun B3 v3 H3 g3 r3 => ?_
  exact h B3 al1 v3 H3 (e1.trans g3.b) g1 (wd1.grow g3) r3
theorem se_un {op : UnaryOp} {r : V → Hp → VK → Prop} {f : D → Option D} {pos : Pos} (ho : UnR X (unaryOp op) r) (hs : UnS X r f) (ha : SE X a ma) : SE X (.UnaryOp op a pos) (mUn f ma) :=
  ⟨un_len ha, fun ρ m o m' q B al σ H Q wd rs h pins s I => (pe_un ho pe_w).run pins s σ H Q I (un_run hs ha q wd rs h)⟩
end

/-! ### tests -/
def dBool : D → Option Bool
  | .bl b => some b
  | _ => none
def wBool (w : W) (m : Mem) : Run Bool := match w with
  | .dat (.bl b) => ret b m
  | _ => none
theorem wBool_eq {w : W} {m : Mem} {o : Out Bool} {m' : Mem} (h : wBool w m = some (o, m')) : ∃ b, w = .dat (.bl b) ∧ o = .ok b ∧ m' = m := by
  unfold wBool at h
  split at h
  · next b => cases h; exact ⟨b, rfl, rfl, rfl⟩
  · cases h
@[simp] theorem wBool_bl {b : Bool} {m : Mem} : wBool (.dat (.bl b)) m = ret b m := rfl
def mTest (ma : EM) : TM := fun ρ m => bnd (ma ρ m) wBool
theorem mTest_len {X : Cx} {a : Expr} {ma : EM} (ha : SE X a ma) : ∀ ρ m o m', mTest ma ρ m = some (o, m') → m.length ≤ m'.length := fun ρ m o m' q =>
  bnd_len q (ha.len ρ m) fun x m1 q1 => by
    obtain ⟨_, _, _, rfl⟩ := wBool_eq q1
    exact Nat.le_refl _
section
variable {X : Cx} {a b c : Expr} {ma mb mc : EM} {ta tb : TM} {pos : Pos}
theorem mTest_run (ha : SE X a ma) {ρ : Slots} {m m' : Mem} {o : Out Bool} (q : mTest ma ρ m = some (o, m')) {B : Hp} {al : Pl} {σ : L2.St} {H : Hp} {Q : Bool → Hp → Prop}
    (wd : Wd X.K B al m H) (rs : RepS X.K B al m.length σ ρ) (h : AnsT X B al m.length σ Q m' o) : tTest (wE X a) σ H Q := by
  refine ha.seq q wd rs h.res fun x m1 q1 l1 B1 al1 v1 H1 e1 g1 wd1 r1 => ?_
  obtain ⟨b, rfl, rfl, rfl⟩ := wBool_eq q1
  cases (r1 : Rep X.K B1 v1 (.bl b))
  exact ⟨b, rfl, h B1 al1 H1 e1 g1 wd1⟩
/-- a comparison as a test -/
theorem st_cmp {op : CmpOp} {r : R2} {f : D → D → Option D} (ho : OpR X (compareOp op) r) (hs : OpS X r f) (ha : SE X a ma) (hb : SE X b mb) (hm : behindInMarks op b = false) : ST X (.Compare a [op] [b] pos) (mTest (mOp f ma mb)) := by
  have he : SE X (.Compare a [op] [b] pos) (mOp f ma mb) := se_cmp ho hs ha hb hm
  refine ⟨mTest_len he, fun ρ m o m' q B al σ H Q wd rs h pins s I => (pt_cmpR ho pe_w pe_w hm).run pins s σ H Q I ?_⟩
  show tTest (tOp r (wE X a) (wE X b)) σ H Q
  rcases bnd_cases q with ⟨w, m1, e1, e2⟩ | ⟨c, fs, e1, rfl⟩
  · obtain ⟨b', rfl, rfl, rfl⟩ := wBool_eq e2
    refine op_run (Q := fun x H' => ∃ k, x = .bl k ∧ Q k H') hs ha hb e1 wd rs fun B1 al1 v1 H1 e g wd1 r1 => ?_
    cases (r1 : Rep X.K B1 v1 (.bl b'))
    exact ⟨b', rfl, h B1 al1 H1 e g wd1⟩
  · exact op_run (Q := fun x H' => ∃ k, x = .bl k ∧ Q k H') hs ha hb e1 wd rs h
/-- an expression that is a bool -/
theorem st_val (ha : SE X a ma) (he : ∀ whole, isTrue a X.env whole = (do let v ← whole; standAt a.pos; holding [v] (truthy v)) := by intro _; rfl) : ST X a (mTest ma) :=
  ⟨mTest_len ha, fun ρ m o m' q B al σ H Q wd rs h pins s I => (pt_val (t := wE X a) pe_w he).run pins s σ H Q I (mTest_run ha q wd rs h)⟩
def mNotT (ta : TM) : TM := fun ρ m => bnd (ta ρ m) fun b m1 => ret (!b) m1
theorem st_not (ha : ST X a ta) : ST X (.UnaryOp .Not a pos) (mNotT ta) := by
  refine ⟨fun ρ m o m' q => bnd_len q (ha.len ρ m) fun x m1 q1 => by cases q1; exact Nat.le_refl _, fun ρ m o m' q B al σ H Q wd rs h pins s I => (pt_not pt_w).run pins s σ H Q I ?_⟩
  refine ha.seq q wd rs h.res fun b m1 q1 l1 B1 al1 H1 e1 g1 wd1 => ?_
  cases q1
  exact h B1 al1 H1 e1 g1 wd1
def mAndT (ta tb : TM) : TM := fun ρ m => bnd (ta ρ m) fun b m1 => match b with
  | true => tb ρ m1
  | false => ret false m1
def mOrT (ta tb : TM) : TM := fun ρ m => bnd (ta ρ m) fun b m1 => match b with
  | true => ret true m1
  | false => tb ρ m1
/-- a test of and, or: whatever the whole is -/
def wW (X : Cx) (e : Expr) : TT := fun σ H Q => ∀ (whole : Sem Value) (pins : List (Addr × Obj)) (s : Shared), Inv X pins σ H s → wpAny (model X.prog X.w) X.A (isTrue e X.env whole) (TP X pins σ Q) X.xe s
theorem pw_w {e : Expr} : PW X e (wW X e) := ⟨fun wh pins s σ H Q I h => h wh pins s I⟩
structure SW (X : Cx) (e : Expr) (mm : TM) : Prop where
  len : ∀ ρ m o m', mm ρ m = some (o, m') → m.length ≤ m'.length
  run : ∀ ρ m o m', mm ρ m = some (o, m') → ∀ B al σ H Q, Wd X.K B al m H → RepS X.K B al m.length σ ρ → AnsT X B al m.length σ Q m' o → wW X e σ H Q
theorem SW.st {e : Expr} {mm : TM} (h : SW X e mm) : ST X e mm := ⟨h.len, fun ρ m o m' q B al σ H Q wd rs ha pins s I => h.run ρ m o m' q B al σ H Q wd rs ha _ pins s I⟩
theorem sw_and1 (ha : ST X a ta) : SW X (.BoolOp .And [a] pos) ta := ⟨ha.len, fun ρ m o m' q B al σ H Q wd rs h wh pins s I => (pw_and1 pt_w).run wh pins s σ H Q I (ha.run ρ m o m' q B al σ H Q wd rs h)⟩
theorem sw_or1 (ha : ST X a ta) : SW X (.BoolOp .Or [a] pos) ta := ⟨ha.len, fun ρ m o m' q B al σ H Q wd rs h wh pins s I => (pw_or1 pt_w).run wh pins s σ H Q I (ha.run ρ m o m' q B al σ H Q wd rs h)⟩
variable {rest : List Expr}
theorem sw_and (ha : ST X a ta) (hb : SW X (.BoolOp .And (b :: rest) pos) tb) : SW X (.BoolOp .And (a :: b :: rest) pos) (mAndT ta tb) := by
  refine ⟨fun ρ m o m' q => bnd_len q (ha.len ρ m) fun x m1 q1 => by
    cases x with
    | true => exact hb.len ρ m1 o m' q1
    | false => cases q1; exact Nat.le_refl _, fun ρ m o m' q B al σ H Q wd rs h wh pins s I => (pw_and pt_w pw_w).run wh pins s σ H Q I ?_⟩
  refine ha.seq q wd rs h.res fun b m1 q1 l1 B1 al1 H1 e1 g1 wd1 => ?_
  cases b with
  | true =>
    rw [if_pos rfl]
    refine hb.run ρ m1 o m' q1 B1 al1 σ H1 Q wd1 (rs.mono e1 g1 l1) ?_
    cases o with
    | ok b => exact fun B2 al2 H2 e2 g2 wd2 => h B2 al2 H2 (e1.trans e2) (g1.trans g2 l1) wd2
    | ex c fs => exact Flies.mono e1 g1 l1 h
  | false =>
    rw [if_neg Bool.false_ne_true]
    cases q1
    exact h B1 al1 H1 e1 g1 wd1
theorem sw_or (ha : ST X a ta) (hb : SW X (.BoolOp .Or (b :: rest) pos) tb) : SW X (.BoolOp .Or (a :: b :: rest) pos) (mOrT ta tb) := by
  refine ⟨fun ρ m o m' q => bnd_len q (ha.len ρ m) fun x m1 q1 => by
    cases x with
    | false => exact hb.len ρ m1 o m' q1
    | true => cases q1; exact Nat.le_refl _, fun ρ m o m' q B al σ H Q wd rs h wh pins s I => (pw_or pt_w pw_w).run wh pins s σ H Q I ?_⟩
  refine ha.seq q wd rs h.res fun b m1 q1 l1 B1 al1 H1 e1 g1 wd1 => ?_
  cases b with
  | false =>
    rw [if_neg Bool.false_ne_true]
    refine hb.run ρ m1 o m' q1 B1 al1 σ H1 Q wd1 (rs.mono e1 g1 l1) ?_
    cases o with
    | ok b => exact fun B2 al2 H2 e2 g2 wd2 => h B2 al2 H2 (e1.trans e2) (g1.trans g2 l1) wd2
    | ex c fs => exact Flies.mono e1 g1 l1 h
  | true =>
    rw [if_pos rfl]
    cases q1
    exact h B1 al1 H1 e1 g1 wd1
theorem AnsE.mono {B B1 : Hp} {al al1 : Pl} {n n1 : Nat} {σ : L2.St} {Q : VK} {m' : Mem} {o : Out W} (e : Ex B B1) (g : Agr n al al1) (l : n ≤ n1) (h : AnsE X B al n σ Q m' o) : AnsE X B1 al1 n1 σ Q m' o := by
  cases o with
  | ok w => exact fun B2 al2 v H2 e2 g2 wd2 r => h B2 al2 v H2 (e.trans e2) (g.trans g2 l) wd2 r
  | ex c fs => exact Flies.mono e g l h
theorem AnsT.mono {B B1 : Hp} {al al1 : Pl} {n n1 : Nat} {σ : L2.St} {Q : Bool → Hp → Prop} {m' : Mem} {o : Out Bool} (e : Ex B B1) (g : Agr n al al1) (l : n ≤ n1) (h : AnsT X B al n σ Q m' o) : AnsT X B1 al1 n1 σ Q m' o := by
  cases o with
  | ok w => exact fun B2 al2 H2 e2 g2 wd2 => h B2 al2 H2 (e.trans e2) (g.trans g2 l) wd2
  | ex c fs => exact Flies.mono e g l h
theorem AnsA.mono {B B1 : Hp} {al al1 : Pl} {n n1 : Nat} {σ : L2.St} {Q : List V → Hp → Prop} {m' : Mem} {o : Out (List W)} (e : Ex B B1) (g : Agr n al al1) (l : n ≤ n1) (h : AnsA X B al n σ Q m' o) : AnsA X B1 al1 n1 σ Q m' o := by
  cases o with
  | ok w => exact fun B2 al2 v H2 e2 g2 wd2 r => h B2 al2 v H2 (e.trans e2) (g.trans g2 l) wd2 r
  | ex c fs => exact Flies.mono e g l h
/-! and, or, not as values: bools -/
def mAnd (ma mb : EM) : EM := fun ρ m => bnd (ma ρ m) fun x m1 => bnd (wBool x m1) fun b m2 => match b with
  | true => mb ρ m2
  | false => rd (.bl false) m2
def mOr (ma mb : EM) : EM := fun ρ m => bnd (ma ρ m) fun x m1 => bnd (wBool x m1) fun b m2 => match b with
  | true => rd (.bl true) m2
  | false => mb ρ m2
theorem se_one {op : BoolOp} (ha : SE X a ma) : SE X (.BoolOp op [a] pos) ma := ⟨ha.len, fun ρ m o m' q B al σ H Q wd rs h pins s I => (pe_one pe_w).run pins s σ H Q I (ha.run ρ m o m' q B al σ H Q wd rs h)⟩
theorem wBool_len {w : W} {m : Mem} : ∀ (o : Out Bool) m', wBool w m = some (o, m') → m.length ≤ m'.length := fun o m' h => by
  obtain ⟨_, _, _, rfl⟩ := wBool_eq h
  exact Nat.le_refl _
theorem se_and (ha : SE X a ma) (hb : SE X (.BoolOp .And (b :: rest) pos) mb) : SE X (.BoolOp .And (a :: b :: rest) pos) (mAnd ma mb) := by
  refine ⟨fun ρ m o m' q => bnd_len q (ha.len ρ m) fun x m1 q1 => bnd_len q1 wBool_len fun b m2 q2 => by
    cases b with
    | true => exact hb.len ρ m2 o m' q2
    | false => cases q2; exact Nat.le_refl _, fun ρ m o m' q B al σ H Q wd rs h pins s I => (pe_and pe_w pe_w).run pins s σ H Q I ?_⟩
  refine ha.seq q wd rs h.res fun x m1 q1 l1 B1 al1 v1 H1 e1 g1 wd1 r1 => ?_
  rcases bnd_cases q1 with ⟨b, m2, e2, q2⟩ | ⟨c, fs, e2, _⟩
  · obtain ⟨b', rfl, e3, rfl⟩ := wBool_eq e2
    cases e3
    cases (r1 : Rep X.K B1 v1 (.bl b))
    refine ⟨b, rfl, ?_⟩
    cases b with
    | true =>
      rw [if_pos rfl]
      exact hb.run ρ _ o m' q2 B1 al1 σ H1 Q wd1 (rs.mono e1 g1 l1) (h.mono e1 g1 l1)
    | false =>
      rw [if_neg Bool.false_ne_true]
      cases q2
      exact h B1 al1 _ H1 e1 g1 wd1 (.bl false)
  · obtain ⟨_, _, e3, _⟩ := wBool_eq e2
    cases e3
theorem se_or (ha : SE X a ma) (hb : SE X (.BoolOp .Or (b :: rest) pos) mb) : SE X (.BoolOp .Or (a :: b :: rest) pos) (mOr ma mb) := by
  refine ⟨fun ρ m o m' q => bnd_len q (ha.len ρ m) fun x m1 q1 => bnd_len q1 wBool_len fun b m2 q2 => by
    cases b with
    | false => exact hb.len ρ m2 o m' q2
    | true => cases q2; exact Nat.le_refl _, fun ρ m o m' q B al σ H Q wd rs h pins s I => (pe_or pe_w pe_w).run pins s σ H Q I ?_⟩
  refine ha.seq q wd rs h.res fun x m1 q1 l1 B1 al1 v1 H1 e1 g1 wd1 r1 => ?_
  rcases bnd_cases q1 with ⟨b, m2, e2, q2⟩ | ⟨c, fs, e2, _⟩
  · obtain ⟨b', rfl, e3, rfl⟩ := wBool_eq e2
    cases e3
    cases (r1 : Rep X.K B1 v1 (.bl b))
    refine ⟨b, rfl, ?_⟩
    cases b with
    | false =>
      rw [if_neg Bool.false_ne_true]
      exact hb.run ρ _ o m' q2 B1 al1 σ H1 Q wd1 (rs.mono e1 g1 l1) (h.mono e1 g1 l1)
    | true =>
      rw [if_pos rfl]
      cases q2
      exact h B1 al1 _ H1 e1 g1 wd1 (.bl true)
  · obtain ⟨_, _, e3, _⟩ := wBool_eq e2
    cases e3
/-- not, as a value of any test's -/
def mNotV (ta : TM) : EM := fun ρ m => bnd (ta ρ m) fun b m1 => rd (.bl (!b)) m1
def fNot : D → Option D
  | .bl b => some (.bl (!b))
  | _ => none
theorem se_not (ha : SE X a ma) : SE X (.UnaryOp .Not a pos) (mUn fNot ma) := by
  refine ⟨un_len ha, fun ρ m o m' q B al σ H Q wd rs h pins s I => (pe_not pe_w).run pins s σ H Q I ?_⟩
  refine un_run (r := fun x H Q => ∃ c, x = .bl c ∧ Q (.bl (!c)) H) (fun dx d hf B H x e hx Q k => ?_) ha q wd rs h
  cases dx with
  | bl b =>
    cases hf
    cases (hx : Rep X.K B x (.bl b))
    exact ⟨b, rfl, k B _ H (Gr.refl e) (.bl _)⟩
  | _ => cases hf
def mIf (tc : TM) (ma mb : EM) : EM := fun ρ m => bnd (tc ρ m) fun b m1 => match b with
  | true => ma ρ m1
  | false => mb ρ m1
theorem se_if {tc : TM} (hc : ST X c tc) (ha : SE X a ma) (hb : SE X b mb) : SE X (.IfExp c a b pos) (mIf tc ma mb) := by
  refine ⟨fun ρ m o m' q => bnd_len q (hc.len ρ m) fun x m1 q1 => by
    cases x with
    | false => exact hb.len ρ m1 o m' q1
    | true => exact ha.len ρ m1 o m' q1, fun ρ m o m' q B al σ H Q wd rs h pins s I => (pe_ifExp pt_w pe_w pe_w).run pins s σ H Q I ?_⟩
  refine hc.seq q wd rs h.res fun b m1 q1 l1 B1 al1 H1 e1 g1 wd1 => ?_
  cases b with
  | true =>
    rw [if_pos rfl]
    exact ha.run ρ m1 o m' q1 B1 al1 σ H1 Q wd1 (rs.mono e1 g1 l1) (h.mono e1 g1 l1)
  | false =>
    rw [if_neg Bool.false_ne_true]
    exact hb.run ρ m1 o m' q1 B1 al1 σ H1 Q wd1 (rs.mono e1 g1 l1) (h.mono e1 g1 l1)
end

/-! ### arguments, displays -/
def mNil : AM := fun _ m => ret [] m
def mCons (ma : EM) (mr : AM) : AM := fun ρ m => bnd (ma ρ m) fun x m1 => bnd (mr ρ m1) fun xs m2 => ret (x :: xs) m2
/-- no star -/
def noStar : Expr → Bool
  | .Starred .. => false
  | _ => true
theorem starEach_cons {e : Expr} {es : List Expr} {env : Env} (h : noStar e = true) : starEach (e :: es) env = (false, eval e env) :: starEach es env := by
  cases e <;> first | rfl | cases h
section
variable {X : Cx} {e : Expr} {es : List Expr} {ma : EM} {mr : AM} {pos : Pos}
theorem sa_nil : SA X [] mNil := ⟨fun ρ m o m' q => by cases q; exact Nat.le_refl _, fun ρ m o m' q B al σ H Q wd rs h pos pins s I => by
  cases q
  exact pa_nil.run pos pins s σ H Q I (h B al [] H (Ex.refl B) Agr.refl wd trivial)⟩
theorem sa_cons (ha : SE X e ma) (hr : SA X es mr) (hs : noStar e = true := by rfl) : SA X (e :: es) (mCons ma mr) := by
  refine ⟨fun ρ m o m' q => bnd_len q (ha.len ρ m) fun x m1 q1 => bnd_len q1 (hr.len ρ m1) fun y m2 q2 => by cases q2; exact Nat.le_refl _, fun ρ m o m' q B al σ H Q wd rs h pos pins s I => (pa_cons pe_w pa_w (starEach_cons hs)).run pos pins s σ H Q I ?_⟩
  refine ha.seq q wd rs h.res fun x m1 q1 l1 B1 al1 v1 H1 e1 g1 wd1 r1 => ?_
  refine hr.seq q1 wd1 (rs.mono e1 g1 l1) (fun c fs z => (h.res c fs z).mono e1 g1 l1) fun y m2 q2 l2 B2 al2 vs2 H2 e2 g2 wd2 r2 => ?_
  cases q2
  exact h B2 al2 (v1 :: vs2) H2 (e1.trans e2) (g1.trans g2 l1) wd2 ⟨r1.mono e2 g2 l2, r2⟩
/-- all of them data -/
def dats : List W → Option (List D)
  | [] => some []
  | .dat d :: r => (dats r).map (d :: ·)
  | .hdl _ :: _ => none
theorem RepL.dats {K : PySem.W.Frag} {B : Hp} {al : Pl} {n : Nat} : ∀ {vs : List V} {ws : List W} {ds : List D}, RepL K B al n vs ws → dats ws = some ds → Reps K B vs ds
  | [], [], _, _, h => by cases h; exact .nil
  | v :: vs, .dat d :: ws, ds, r, h => by
    have h' : (Dm.dats ws).map (d :: ·) = some ds := h
    cases q : Dm.dats ws with
    | none => rw [q] at h'; cases h'
    | some es =>
      rw [q] at h'
      cases h'
      exact .cons r.1 (RepL.dats r.2 q)
  | _ :: _, .hdl _ :: _, _, _, h => by cases h
  | [], _ :: _, _, r, _ => r.elim
  | _ :: _, [], _, r, _ => r.elim
theorem dats_length : ∀ {ws : List W} {ds : List D}, dats ws = some ds → ds.length = ws.length
  | [], _, h => by cases h; rfl
  | .dat d :: ws, ds, h => by
    have h' : (dats ws).map (d :: ·) = some ds := h
    cases q : dats ws with
    | none => rw [q] at h'; cases h'
    | some es =>
      rw [q] at h'
      cases h'
      exact congrArg (· + 1) (dats_length q)
  | .hdl _ :: _, _, h => by cases h
/-- a display of so many items -/
def LIM : Nat := 1000000
theorem lim_ok {n : Nat} (h : n ≤ LIM) : n ≤ sizeLine := Nat.le_trans h (by decide)
theorem lim_lt {n : Nat} (h : n < LIM) : n < sizeLine := Nat.lt_of_lt_of_le h (by decide)
def mTup (ma : AM) : EM := fun ρ m => bnd (ma ρ m) fun ws m1 => match dats ws with
  | some ds => if ds.length ≤ LIM then rd (.tup ds) m1 else none
  | none => none
def mLst (ma : AM) : EM := fun ρ m => bnd (ma ρ m) fun ws m1 => match dats ws with
  | some ds => if ds.length ≤ LIM then rd (.lst ds) m1 else none
  | none => none
theorem disp_eq {c : List D → D} {ws : List W} {m1 : Mem} {o : Out W} {m' : Mem} (q : (match dats ws with
  | some ds => if ds.length ≤ LIM then rd (c ds) m1 else none
  | none => none) = some (o, m')) : ∃ ds, dats ws = some ds ∧ ds.length ≤ LIM ∧ o = .ok (.dat (c ds)) ∧ m' = m1 := by
  split at q
  · next ds h =>
    split at q
    · next hl => cases q; exact ⟨ds, h, hl, rfl, rfl⟩
    · cases q
  · cases q
theorem se_tup {k : Nat} (ha : SA X es mr) : SE X (.Tuple es k pos) (mTup mr) := by
  refine ⟨fun ρ m o m' q => bnd_len q (ha.len ρ m) fun x m1 q1 => by
    obtain ⟨_, _, _, _, rfl⟩ := disp_eq q1
    exact Nat.le_refl _, fun ρ m o m' q B al σ H Q wd rs h pins s I => (pe_tup pa_w).run pins s σ H Q I ?_⟩
  refine ha.seq q wd rs h.res fun ws m1 q1 l1 B1 al1 vs1 H1 e1 g1 wd1 r1 => ?_
  obtain ⟨ds, hd, hl, rfl, rfl⟩ := disp_eq q1
  have rr := r1.dats hd
  refine ⟨lim_ok (by rw [rr.length]; exact hl), fun p hp => ?_⟩
  have g := Gr.lay wd1.ext (o := .tup vs1) hp
  exact h _ al1 _ _ (e1.trans g.b) g1 (wd1.grow g) (.tup (.inl (.inl upd_same)) (rr.mono g.b))
theorem se_lst (ha : SA X es mr) : SE X (.List es pos) (mLst mr) := by
  refine ⟨fun ρ m o m' q => bnd_len q (ha.len ρ m) fun x m1 q1 => by
    obtain ⟨_, _, _, _, rfl⟩ := disp_eq q1
    exact Nat.le_refl _, fun ρ m o m' q B al σ H Q wd rs h pins s I => (pe_lst pa_w).run pins s σ H Q I ?_⟩
  refine ha.seq q wd rs h.res fun ws m1 q1 l1 B1 al1 vs1 H1 e1 g1 wd1 r1 => ?_
  obtain ⟨ds, hd, hl, rfl, rfl⟩ := disp_eq q1
  have rr := r1.dats hd
  refine ⟨lim_ok (by rw [rr.length]; exact hl), fun p hp => ?_⟩
  have g := Gr.lay wd1.ext (o := .lst vs1) hp
  exact h _ al1 _ _ (e1.trans g.b) g1 (wd1.grow g) (.lst (.inl (.inl upd_same)) (rr.mono g.b))
/-- a new list, kept as a handle -/
def mLstH (ma : AM) : EM := fun ρ m => bnd (ma ρ m) fun ws m1 => match dats ws with
  | some ds => if ds.length ≤ LIM then ret (.hdl m1.length) (m1 ++ [.lst ds]) else none
  | none => none
end
/-- a new handle: p is free -/
def alx (al : Pl) (n : Nat) (p : Addr) : Pl := ⟨fun k => if k = n then p else al k, al.fr⟩
theorem alx_here {al : Pl} {n : Nat} {p : Addr} : alx al n p n = p := by show (if n = n then p else al n) = p; exact if_pos rfl
theorem alx_old {al : Pl} {n k : Nat} {p : Addr} (h : k < n) : alx al n p k = al k := by show (if k = n then p else al k) = al k; exact if_neg (Nat.ne_of_lt h)
theorem snoc_get {α : Type} {m : List α} {c c' : α} {k : Nat} (e : (m ++ [c])[k]? = some c') : (k < m.length ∧ m[k]? = some c') ∨ (k = m.length ∧ c' = c) := by
  rw [List.getElem?_append] at e
  split at e
  · next h => exact .inl ⟨h, e⟩
  · next h =>
    have hk : k - m.length = 0 := by
      cases q : k - m.length with
      | zero => rfl
      | succ j => rw [q] at e; simp at e
    rw [hk] at e
    have : c = c' := by simpa using e
    exact .inr ⟨by omega, this.symm⟩
theorem Wd.notNew {K : PySem.W.Frag} {B H : Hp} {al : Pl} {m : Mem} (wd : Wd K B al m H) {p : Addr} (hp : H p = none) {k : Nat} {c' : Cell} (e : m[k]? = some c') (hd : c'.isDead = false) : al k ≠ p := fun z => by
  obtain ⟨_, r⟩ := wd.cell k c' e hd
  rw [z] at r
  cases c' with
  | dead => cases hd
  | lst ds => obtain ⟨vs, q, _⟩ := r; rw [hp] at q; cases q
  | dct es => obtain ⟨kvs, q, _⟩ | ⟨kvs, q, _⟩ := r <;> (rw [hp] at q; cases q)
  | obj c fs => obtain ⟨dx, gs, q, _⟩ := r; rw [hp] at q; cases q
theorem Wd.alloc {K : PySem.W.Frag} {B H : Hp} {al : Pl} {m : Mem} (wd : Wd K B al m H) {p : Addr} {o : HO} {c : Cell} (hp : H p = none) (hc : RepC K B (upd H p o) p c) :
    Wd K B (alx al m.length p) (m ++ [c]) (upd H p o) ∧ Agr m.length al (alx al m.length p) := by
  have w2 := wd.grow (Gr.by (o := o) wd.ext hp)
  have hb : B p = none := by
    cases q : B p with
    | none => rfl
    | some u => rw [wd.ext p u q] at hp; cases hp
  have hf : al.fr p = none := by
    cases q : al.fr p with
    | none => rfl
    | some u => rw [wd.fx p u q] at hp; cases hp
  refine ⟨⟨w2.ext, fun k c' e hd => ?_, fun j k c1 c2 e1 e2 hd1 hd2 hjk => ?_, w2.fx, w2.fb, fun k c' e hd => ?_⟩, ⟨fun k hk => alx_old hk, rfl⟩⟩
  rotate_left 2
  · rcases snoc_get e with ⟨hk, e'⟩ | ⟨rfl, rfl⟩
    · rw [alx_old hk]; exact w2.fc k c' e' hd
    · rw [alx_here]; exact hf
  · rcases snoc_get e with ⟨hk, e'⟩ | ⟨rfl, rfl⟩
    · rw [alx_old hk]
      exact w2.cell k c' e' hd
    · rw [alx_here]
      exact ⟨hb, hc⟩
  · rcases snoc_get e1 with ⟨hj, e1'⟩ | ⟨rfl, rfl⟩ <;> rcases snoc_get e2 with ⟨hk, e2'⟩ | ⟨rfl, rfl⟩
    · rw [alx_old hj, alx_old hk] at hjk
      exact wd.inj j k c1 c2 e1' e2' hd1 hd2 hjk
    · rw [alx_old hj, alx_here] at hjk
      exact absurd hjk (wd.notNew hp e1' hd1)
    · rw [alx_old hk, alx_here] at hjk
      exact absurd hjk.symm (wd.notNew hp e2' hd2)
    · rfl
theorem se_lstH {X : Cx} {es : List Expr} {mr : AM} {pos : Pos} (ha : SA X es mr) : SE X (.List es pos) (mLstH mr) := by
  have inv : ∀ {ws : List W} {m1 m' : Mem} {o : Out W}, (match dats ws with
    | some ds => if ds.length ≤ LIM then (ret (W.hdl m1.length) (m1 ++ [Cell.lst ds]) : Run W) else none
    | none => none) = some (o, m') → ∃ ds, dats ws = some ds ∧ ds.length ≤ LIM ∧ o = .ok (.hdl m1.length) ∧ m' = m1 ++ [.lst ds] := fun {ws m1 m' o} q => by
    split at q
    · next ds h =>
      split at q
      · next hl => cases q; exact ⟨ds, h, hl, rfl, rfl⟩
      · cases q
    · cases q
  refine ⟨fun ρ m o m' q => bnd_len q (ha.len ρ m) fun x m1 q1 => by
    obtain ⟨_, _, _, _, rfl⟩ := inv q1
    simp, fun ρ m o m' q B al σ H Q wd rs h pins s I => (pe_lst pa_w).run pins s σ H Q I ?_⟩
  refine ha.seq q wd rs h.res fun ws m1 q1 l1 B1 al1 vs1 H1 e1 g1 wd1 r1 => ?_
  obtain ⟨ds, hd, hl, rfl, rfl⟩ := inv q1
  have rr := r1.dats hd
  refine ⟨lim_ok (by rw [rr.length]; exact hl), fun p hp => ?_⟩
  obtain ⟨w2, a2⟩ := wd1.alloc (o := .lst vs1) (c := .lst ds) hp ⟨vs1, upd_same, rr⟩
  exact h B1 _ _ _ e1 (g1.trans a2 l1) w2 ⟨by rw [alx_here], by simp⟩
end Dm
/-! Dm, part 3: calls, statements, defs. -/
namespace Dm
open PySem PySem.Spec PyProof.Rows L2
open Evl (Ex)

/-! ### built-in calls on what is seen -/
def views (m : Mem) : List W → Option (List D)
  | [] => some []
  | w :: ws => match view m w, views m ws with
    | some d, some ds => some (d :: ds)
    | _, _ => none
def VwL (K : PySem.W.Frag) (B H : Hp) : List V → List D → Prop
  | [], [] => True
  | v :: vs, d :: ds => Vw K B H v d ∧ VwL K B H vs ds
  | _, _ => False
theorem Wd.views {K : PySem.W.Frag} {B H : Hp} {al : Pl} {m : Mem} {n : Nat} (wd : Wd K B al m H) : ∀ {vs : List V} {ws : List W} {ds : List D}, RepL K B al n vs ws → Dm.views m ws = some ds → VwL K B H vs ds
  | [], [], _, _, h => by cases h; trivial
  | v :: vs, w :: ws, ds, r, h => by
    unfold Dm.views at h
    split at h
    · next d ds' h1 h2 =>
      cases h
      exact ⟨wd.view r.1 h1, Wd.views wd r.2 h2⟩
    · cases h
  | [], _ :: _, _, r, _ => r.elim
  | _ :: _, [], _, r, _ => r.elim
def CaS (X : Cx) (r : List V → Hp → VK → Prop) (f : List D → Option D) : Prop :=
  ∀ (ds : List D) (d : D), f ds = some d → ∀ (B H : Hp) (vs : List V), Ex B H → VwL X.K B H vs ds → ∀ Q : VK, (∀ B' v H', Gr B B' H H' → Rep X.K B' v d → Q v H') → r vs H Q
def apL (f : List D → Option D) (ws : List W) (m : Mem) : Run W := match views m ws with
  | some ds => (match f ds with
    | some d => rd d m
    | none => none)
  | none => none
theorem apL_eq {f : List D → Option D} {ws : List W} {m : Mem} {o : Out W} {m' : Mem} (h : apL f ws m = some (o, m')) : ∃ ds d, views m ws = some ds ∧ f ds = some d ∧ o = .ok (.dat d) ∧ m' = m := by
  unfold apL at h
  split at h
  · next ds h1 =>
    split at h
    · next d h3 =>
      cases h
      exact ⟨ds, d, h1, h3, rfl, rfl⟩
    · cases h
  · cases h
def mCa (f : List D → Option D) (ma : AM) : EM := fun ρ m => bnd (ma ρ m) fun ws m1 => apL f ws m1
theorem star_any {es : List Expr} {env : Env} {pos : Pos} (h : es.all noStar = true) : (backTo pos (starEach es env)).any (·.1) = false := by
  induction es with
  | nil => rfl
  | cons e r ih =>
    have h' : (noStar e && r.all noStar) = true := by simpa using h
    rw [Bool.and_eq_true] at h'
    rw [starEach_cons h'.1]
    show (false || (backTo pos (starEach r env)).any (·.1)) = false
    rw [ih h'.2]
    rfl
section
variable {X : Cx} {e : Expr} {es : List Expr} {ma : AM} {pos : Pos}
theorem ca_len {f : List D → Option D} {es : List Expr} (ha : SA X es ma) : ∀ ρ m o m', mCa f ma ρ m = some (o, m') → m.length ≤ m'.length := fun ρ m o m' q =>
  bnd_len q (ha.len ρ m) fun x m1 q1 => by
    obtain ⟨_, _, _, _, _, rfl⟩ := apL_eq q1
    exact Nat.le_refl _
theorem ca_run {r : List V → Hp → VK → Prop} {f : List D → Option D} {es : List Expr} (hs : CaS X r f) (ha : SA X es ma) {ρ : Slots} {m m' : Mem} {o : Out W} (q : mCa f ma ρ m = some (o, m')) {B : Hp} {al : Pl} {σ : L2.St} {H : Hp} {Q : VK}
    (wd : Wd X.K B al m H) (rs : RepS X.K B al m.length σ ρ) (h : AnsE X B al m.length σ Q m' o) : tCB r (wA X es) σ H Q := by
  refine ha.seq q wd rs h.res fun ws m1 q1 l1 B1 al1 vs1 H1 e1 g1 wd1 r1 => ?_
  obtain ⟨ds, d, hv, hf, rfl, rfl⟩ := apL_eq q1
  refine hs ds d hf B1 H1 vs1 wd1.ext (wd1.views r1 hv) Q fun B3 v3 H3 g3 r3 => ?_
  exact h B3 al1 v3 H3 (e1.trans g3.b) g1 (wd1.grow g3) r3
/-- f(e, ..), f a built-in function -/
theorem se_callB {x : Str} {p : Pos} {id : String} {r : List V → Hp → VK → Prop} {f : List D → Option D} (hc : CallR X (.builtin id) r) (hs : CaS X r f) (hg : Gl X x) (hm : X.mg x = none) (hv : bootBuiltins x = some (.builtin id)) (ha : SA X (e :: es) ma)
    (h0 : noStar e = true := by rfl) (h1 : es.all noStar = true := by rfl) (hn : x ≠ "__name__" := by decide) (hdb : (x == ("__debug__" : Str)) = false := by decide) : SE X (.Call (.Name x p) (e :: es) [] pos) (mCa f ma) :=
  ⟨ca_len ha, fun ρ m o m' q B al σ H Q wd rs h pins s I => (pe_callB hc hg hm hv pa_w hn hdb (starEach_cons h0) (star_any h1)).run pins s σ H Q I (ca_run hs ha q wd rs h)⟩
/-- T(e, ..), T a built-in type -/
theorem se_callTy {x : Str} {p : Pos} {T : String} {r : List V → Hp → VK → Prop} {f : List D → Option D} (hc : CallR X (.type T) r) (hs : CaS X r f) (hg : Gl X x) (hm : X.mg x = none) (hv : bootBuiltins x = some (.type T)) (ha : SA X (e :: es) ma)
    (h0 : noStar e = true := by rfl) (h1 : es.all noStar = true := by rfl) (hn : x ≠ "__name__" := by decide) (hdb : (x == ("__debug__" : Str)) = false := by decide) : SE X (.Call (.Name x p) (e :: es) [] pos) (mCa f ma) :=
  ⟨ca_len ha, fun ρ m o m' q B al σ H Q wd rs h pins s I => (pe_callTy hc hg hm hv pa_w hn hdb (starEach_cons h0) (star_any h1)).run pins s σ H Q I (ca_run hs ha q wd rs h)⟩
end

/-! ### defs -/
abbrev FM := List W → Mem → Run W
def LenF (mf : FM) : Prop := ∀ ws m o m', mf ws m = some (o, m') → m.length ≤ m'.length
/-- the promise: what its mirror says -/
def spM (K : PySem.W.Frag) (n : Nat) (mf : FM) : Sp := fun vs H Q E => vs.length = n ∧ ∃ B al m ws o m', mf ws m = some (o, m') ∧ Wd K B al m H ∧ RepL K B al m.length vs ws ∧
  (match o with
  | .ok w => AnsW K B al m.length w m' Q
  | .ex c fs => AnsX K B al m.length c fs m' E)
/-- what no slot can name is dropped -/
def cut (n : Nat) (x : Run W) : Run W := match x with
  | some (.ok (.dat d), m) => some (.ok (.dat d), m.take n)
  | some (.ok (.hdl k), m) => if k < n then some (.ok (.hdl k), m.take n) else some (.ok (.hdl k), m)
  | some (.ex c fs, m) => some (.ex c fs, m.take n)
  | none => none
@[simp] theorem cut_rd {d : D} {m : Mem} {n : Nat} : cut n (rd d m) = rd d (m.take n) := rfl
@[simp] theorem cut_dat {d : D} {m : Mem} {n : Nat} : cut n (some (.ok (.dat d), m)) = rd d (m.take n) := rfl
@[simp] theorem cut_ex {c : Str} {fs : List (Str × D)} {m : Mem} {n : Nat} : cut n (some (.ex c fs, m)) = some (.ex c fs, m.take n) := rfl
@[simp] theorem take_len {m : Mem} : m.take m.length = m := List.take_length
theorem cut_eq {n : Nat} {x : Run W} {o : Out W} {m' : Mem} (h : cut n x = some (o, m')) : ∃ m2, x = some (o, m2) ∧ (m' = m2 ∨ (m' = m2.take n ∧ ∀ k, o = .ok (.hdl k) → k < n)) := by
  unfold cut at h
  split at h
  · cases h; exact ⟨_, rfl, .inr ⟨rfl, fun k e => by cases e⟩⟩
  · split at h
    · next hk => cases h; exact ⟨_, rfl, .inr ⟨rfl, fun k e => by cases e; exact hk⟩⟩
    · cases h; exact ⟨_, rfl, .inl rfl⟩
  · cases h; exact ⟨_, rfl, .inr ⟨rfl, fun k e => by cases e⟩⟩
  · cases h
/-- the arguments in the parameters' order -/
structure Bdg (K : PySem.W.Frag) (fd : FuncData) (ps : List Str) (n : Nat) (ks : List Str) (gW : List W → List W → List W) : Prop where
  ex : ∃ (g : List Value → List Value → List Value) (gV : List V → List V → List V), KBn K fd ps n ks g gV ∧
    (∀ vs zs : List V, vs.length = n → zs.length = ks.length → (gV vs zs).length = ps.length) ∧ ∀ (B : Hp) (al : Pl) (j : Nat) (vs zs : List V) (ws us : List W), vs.length = n → zs.length = ks.length → RepL K B al j vs ws → RepL K B al j zs us → RepL K B al j (gV vs zs) (gW ws us)
def mDef (n nk : Nat) (gW : List W → List W → List W) (mf : FM) (ma mk : AM) : EM := fun ρ m => bnd (ma ρ m) fun ws m1 => bnd (mk ρ m1) fun us m2 => if ws.length = n ∧ us.length = nk then cut m.length (mf (gW ws us) m2) else none
section
variable {X : Cx} {e : Expr} {es : List Expr} {ma mk : AM} {pos p : Pos} {kws : List Keyword} {x : Str}
/-- keywords' values -/
def wK (X : Cx) (kws : List Keyword) : TA := fun σ H Q => ∀ (pos : Pos) (pins : List (Addr × Obj)) (s : Shared), Inv X pins σ H s → wpAny (model X.prog X.w) X.A (evalAll ((backToKw pos (keywordEach kws X.env)).map (·.2))) (AP X pins σ Q) X.xe s
theorem pk_w : PK X kws (wK X kws) := ⟨fun pos pins s σ H Q I h => h pos pins s I⟩
structure SK (X : Cx) (kws : List Keyword) (mm : AM) : Prop where
  len : ∀ ρ m o m', mm ρ m = some (o, m') → m.length ≤ m'.length
  run : ∀ ρ m o m', mm ρ m = some (o, m') → ∀ B al σ H Q, Wd X.K B al m H → RepS X.K B al m.length σ ρ → AnsA X B al m.length σ Q m' o → wK X kws σ H Q
theorem SK.seq {B : Hp} {al : Pl} {σ : L2.St} {H : Hp} {ρ : Slots} {m m' : Mem} {β : Type} {o : Out β} {mm : AM} {k : List W → Mem → Run β} {Q' : List V → Hp → Prop} (h : SK X kws mm) (hr : bnd (mm ρ m) k = some (o, m')) (wd : Wd X.K B al m H) (rs : RepS X.K B al m.length σ ρ) (hx : Res X B al m.length σ m' o)
    (hk : ∀ ws m1, k ws m1 = some (o, m') → m.length ≤ m1.length → ∀ B' al' vs H', Ex B B' → Agr m.length al al' → Wd X.K B' al' m1 H' → RepL X.K B' al' m1.length vs ws → Q' vs H') : wK X kws σ H Q' := by
  rcases bnd_cases hr with ⟨w, m1, e1, e2⟩ | ⟨c, fs, e1, rfl⟩
  · exact h.run ρ m _ _ e1 B al σ H Q' wd rs (hk w m1 e2 (h.len _ _ _ _ e1))
  · exact h.run ρ m _ _ e1 B al σ H Q' wd rs (hx c fs rfl)
theorem sk_nil : SK X [] mNil := ⟨fun ρ m o m' q => by cases q; exact Nat.le_refl _, fun ρ m o m' q B al σ H Q wd rs h pos pins s I => by
  cases q
  exact pk_nil.run pos pins s σ H Q I (h B al [] H (Ex.refl B) Agr.refl wd trivial)⟩
theorem sk_cons {nm : Option Str} {kpos : Pos} {me : EM} {mr : AM} (ha : SE X e me) (hr : SK X kws mr) : SK X (⟨nm, e, kpos⟩ :: kws) (mCons me mr) := by
  refine ⟨fun ρ m o m' q => bnd_len q (ha.len ρ m) fun x m1 q1 => bnd_len q1 (hr.len ρ m1) fun y m2 q2 => by cases q2; exact Nat.le_refl _, fun ρ m o m' q B al σ H Q wd rs h pos pins s I => (pk_cons pe_w pk_w).run pos pins s σ H Q I ?_⟩
  refine ha.seq q wd rs h.res fun x m1 q1 l1 B1 al1 v1 H1 e1 g1 wd1 r1 => ?_
  refine hr.seq q1 wd1 (rs.mono e1 g1 l1) (fun c fs z => (h.res c fs z).mono e1 g1 l1) fun y m2 q2 l2 B2 al2 vs2 H2 e2 g2 wd2 r2 => ?_
  cases q2
  exact h B2 al2 (v1 :: vs2) H2 (e1.trans e2) (g1.trans g2 l1) wd2 ⟨r1.mono e2 g2 l2, r2⟩
theorem def_len {n nk : Nat} {gW : List W → List W → List W} {mf : FM} (L : LenF mf) (ha : ∀ ρ m o m', ma ρ m = some (o, m') → m.length ≤ m'.length) (hk : ∀ ρ m o m', mk ρ m = some (o, m') → m.length ≤ m'.length) :
    ∀ ρ m o m', mDef n nk gW mf ma mk ρ m = some (o, m') → m.length ≤ m'.length := fun ρ m o m' q => by
  rcases bnd_cases q with ⟨ws, m1, e1, q1⟩ | ⟨c, fs, e1, rfl⟩
  · rcases bnd_cases q1 with ⟨us, m2, e2, q2⟩ | ⟨c, fs, e2, rfl⟩
    · split at q2
      · obtain ⟨m3, e3, h3⟩ := cut_eq q2
        have l1 := ha _ _ _ _ e1
        have l2 := hk _ _ _ _ e2
        have l3 := L _ _ _ _ e3
        rcases h3 with rfl | ⟨rfl, _⟩
        · omega
        · rw [List.length_take]; omega
      · cases q2
    · exact Nat.le_trans (ha _ _ _ _ e1) (hk _ _ _ _ e2)
  · exact ha _ _ _ _ e1
/-- the callee runs; what it lets out flies on -/
theorem run_mf {k n : Nat} {f : Addr} {fd : FuncData} {ps ks : List Str} {mf : FM} {g : List Value → List Value → List Value} {gV : List V → List V → List V} {pins : List (Addr × Obj)} {σ : L2.St} {H : Hp} {s : Shared} {Q : VK} {us ws : List Value} {vs zs : List V} {E : XK}
    {sp : Sp} (F : FnG X.prog X.w X.K X.mg X.base k f fd ps sp) (hr : Room k X.A) (hG : X.A.guards = some []) (hb : KBn X.K fd ps n ks g gV) (I : Inv X pins σ H s) (r : Vals vs us) (rz : Vals zs ws) (l1 : vs.length = n) (l2 : zs.length = ks.length) (h : sp (gV vs zs) H Q E)
    (hx : ∀ u s', L2.CX X.prog X.w X.stack H s E u s' → X.xe u s') : wpAny (model X.prog X.w) X.A (call (.ref f) us (ks.zip ws)) (EP X pins σ Q) X.xe s := by
  have rr := hb.rel r rz
  have bt := hb.to s us ws I.kIn (r.length.symm.trans l1) (rz.length.symm.trans l2)
  have run := F.run X.A X.stack s H ⟨us, ks.zip ws⟩ (g us ws) (gV vs zs) Q E hG hr I.env0 bt rr h
  refine wpAny_call (codeAny_mono run fun res s' done => ?_)
  match res, done with
  | .error u, done => exact hx u s' done
  | .ok (.ret u), done => exact I.after done
  | .ok .next, done => exact done.elim
  | .ok .brk, done => exact done.elim
  | .ok .cont, done => exact done.elim
/-- from the arguments' values to the end of the call -/
theorem call_run {k n : Nat} {f : Addr} {fd : FuncData} {ps ks : List Str} {mf : FM} {gW : List W → List W → List W} (F : FnG X.prog X.w X.K X.mg X.base k f fd ps (spM X.K ps.length mf)) (hr : Room k X.A) (hG : X.A.guards = some []) (hb : Bdg X.K fd ps n ks gW)
    {B B2 : Hp} {al al2 : Pl} {m m2 m' : Mem} {σ : L2.St} {H2 : Hp} {Q : VK} {o : Out W} (h : AnsE X B al m.length σ Q m' o) (l : m.length ≤ m2.length) (e2 : Ex B B2) (g2 : Agr m.length al al2) (wd2 : Wd X.K B2 al2 m2 H2) {vs zs : List V} {ws us : List W}
    (r1 : RepL X.K B2 al2 m2.length vs ws) (r2 : RepL X.K B2 al2 m2.length zs us) (hl1 : ws.length = n) (hl2 : us.length = ks.length) (q : cut m.length (mf (gW ws us) m2) = some (o, m')) (L : LenF mf)
    {pins : List (Addr × Obj)} {s : Shared} (I : Inv X pins σ H2 s) {uv kv : List Value} (rv : Vals vs uv) (rk : Vals zs kv) : wpAny (model X.prog X.w) X.A (call (.ref f) uv (ks.zip kv)) (EP X pins σ Q) X.xe s := by
  obtain ⟨g, gV, hbn, hvl, hrel⟩ := hb.ex
  obtain ⟨m3, e3, hm⟩ := cut_eq q
  have lv : vs.length = n := r1.length.trans hl1
  have lz : zs.length = ks.length := r2.length.trans hl2
  have l3 := L _ _ _ _ e3
  have hlen : (gV vs zs).length = ps.length := hvl vs zs lv lz
  cases o with
  | ok w =>
    refine run_mf (E := E0) (mf := mf) F hr hG hbn I rv rk lv lz ⟨hlen, B2, al2, m2, gW ws us, _, m3, e3, wd2, hrel B2 al2 m2.length vs zs ws us lv lz r1 r2, fun B3 al3 v3 H3 e4 g4 wd4 r4 => ?_⟩ fun u s' hq => ?_
    · rcases hm with rfl | ⟨rfl, hw⟩
      · exact h B3 al3 v3 H3 (e2.trans e4) (g2.trans g4 l) wd4 r4
      · refine h B3 al3 v3 H3 (e2.trans e4) (g2.trans g4 l) (wd4.take _) ?_
        cases w with
        | dat d => exact r4
        | hdl k => exact ⟨r4.1, by rw [List.length_take]; have := hw k rfl; omega⟩
    · exact (passL pins σ H2 s u s' I hq)
  | ex c fs =>
    obtain ⟨Wx, tk, ha⟩ := h
    refine run_mf (E := fun cls oa H' => Wx cls oa σ H') (mf := mf) F hr hG hbn I rv rk lv lz ⟨hlen, B2, al2, m2, gW ws us, _, m3, e3, wd2, hrel B2 al2 m2.length vs zs ws us lv lz r1 r2, fun B3 al3 cls oa H3 e4 g4 wd4 r4 => ?_⟩ fun u s' hq => ?_
    · rcases hm with rfl | ⟨rfl, hw⟩
      · exact ha B3 al3 cls oa H3 (e2.trans e4) (g2.trans g4 l) wd4 r4
      · exact ha B3 al3 cls oa H3 (e2.trans e4) (g2.trans g4 l) (wd4.take _) r4
    · exact tk u s' (XE.of_call I (fun cls oa H' z => z) hq)
end
end Dm

namespace Dm
open PySem PySem.Spec PyProof.Rows L2
open Evl (Ex)
theorem kw_names {env : Env} {pos : Pos} : ∀ (kws : List Keyword), (backToKw pos (keywordEach kws env)).map (·.1) = kws.map (·.arg)
  | [] => rfl
  | ⟨_, _, _⟩ :: r => congrArg (_ :: ·) (kw_names (env := env) (pos := pos) r)
theorem kw_all {env : Env} {pos : Pos} {kws : List Keyword} (h : (kws.map (·.arg)).all (·.isSome) = true) : (backToKw pos (keywordEach kws env)).all (·.1.isSome) = true := by
  rw [← kw_names (env := env) (pos := pos), List.all_map] at h
  exact h
theorem kw_any {env : Env} {pos : Pos} {kws : List Keyword} (h : (kws.map (·.arg)).all (·.isSome) = true) : (backToKw pos (keywordEach kws env)).any (·.1.isNone) = false := by
  have h2 := kw_all (env := env) (pos := pos) h
  rw [List.any_eq_false]
  intro p hp q
  have := List.all_eq_true.mp h2 p hp
  cases e : p.1 with
  | none => rw [e] at this; cases this
  | some z => rw [e] at q; cases q
theorem kw_ks {env : Env} {pos : Pos} {kws : List Keyword} {ks : List Str} (h : (kws.map (·.arg)).filterMap id = ks) : (backToKw pos (keywordEach kws env)).filterMap (·.1) = ks := by
  rw [← kw_names (env := env) (pos := pos), List.filterMap_map] at h
  exact h
section
variable {X : Cx} {e : Expr} {es : List Expr} {ma mk : AM} {pos p : Pos} {kws : List Keyword} {x : Str} {k n : Nat} {f : Addr} {fd : FuncData} {ps ks : List Str} {mf : FM} {gW : List W → List W → List W}
/-- f(e, ..) -/
theorem se_call (F : FnG X.prog X.w X.K X.mg X.base k f fd ps (spM X.K ps.length mf)) (L : LenF mf) (hr : Room k X.A) (hG : X.A.guards = some []) (hb : Bdg X.K fd ps n [] gW) (hg : Gl X x) (hm : X.mg x = some (.ref f)) (hk : PySem.W.keepIn X.K (.ref f) = true)
    (ha : SA X (e :: es) ma) (h0 : noStar e = true := by rfl) (h1 : es.all noStar = true := by rfl) (hdb : (x == ("__debug__" : Str)) = false := by decide) : SE X (.Call (.Name x p) (e :: es) [] pos) (mDef n 0 gW mf ma mNil) := by
  refine ⟨def_len L ha.len (sk_nil (X := X)).len, fun ρ m o m' q B al σ H Q wd rs h pins s I => ?_⟩
  refine wpAny_Call_Name_kw (ld_glob I hg hm ?_ hdb)
  refine PySem.W.callWith_K (h₀ := X.base) I.ok.mod.kin hk (thn (ha.seq (Q' := fun vs H1 => ∀ pins s1 us, Inv X pins σ H1 s1 → Vals vs us → wpAny (model X.prog X.w) X.A (call (.ref f) us) (EP X pins σ Q) X.xe s1) q wd rs h.res (fun ws m1 q1 l1 B1 al1 vs1 H1 e1 g1 wd1 r1 pins s1 us I1 ru => ?_) pos pins s I)
    fun us s1 ⟨vs, H1, I1, r, q⟩ => ⟨I1.kIn, q pins s1 us I1 r⟩) (starEach_cons h0) (star_any h1)
  have q2 : (if ws.length = n ∧ ([] : List W).length = 0 then cut m.length (mf (gW ws []) m1) else none) = some (o, m') := q1
  split at q2
  · next hl => exact call_run (kv := []) (zs := []) (us := []) F hr hG hb h l1 e1 g1 wd1 r1 trivial hl.1 rfl q2 L I1 ru .nil
  · cases q2
/-- f() -/
theorem se_call0 (F : FnG X.prog X.w X.K X.mg X.base k f fd ps (spM X.K ps.length mf)) (L : LenF mf) (hr : Room k X.A) (hG : X.A.guards = some []) (hb : Bdg X.K fd ps 0 [] gW) (hg : Gl X x) (hm : X.mg x = some (.ref f)) (hk : PySem.W.keepIn X.K (.ref f) = true)
    (hdb : (x == ("__debug__" : Str)) = false := by decide) : SE X (.Call (.Name x p) [] [] pos) (mDef 0 0 gW mf mNil mNil) := by
  refine ⟨def_len L (sa_nil (X := X)).len (sk_nil (X := X)).len, fun ρ m o m' q B al σ H Q wd rs h pins s I => ?_⟩
  refine wpAny_Call_Name_kw (ld_glob I hg hm ?_ hdb)
  refine PySem.W.callWith_K0 I.kIn hk ?_
  have q2 : cut m.length (mf (gW [] []) m) = some (o, m') := q
  exact call_run (uv := []) (vs := []) (ws := []) (kv := []) (zs := []) (us := []) F hr hG hb h (Nat.le_refl _) (Ex.refl B) Agr.refl wd trivial trivial rfl rfl q2 L I .nil .nil
/-- f(e, .., k = v, ..) -/
theorem se_callK (F : FnG X.prog X.w X.K X.mg X.base k f fd ps (spM X.K ps.length mf)) (L : LenF mf) (hr : Room k X.A) (hG : X.A.guards = some []) (hb : Bdg X.K fd ps n ks gW) (hg : Gl X x) (hm : X.mg x = some (.ref f)) (hk : PySem.W.keepIn X.K (.ref f) = true)
    (ha : SA X (e :: es) ma) (hw : SK X kws mk) (hall : (kws.map (·.arg)).all (·.isSome) = true := by rfl) (hks : (kws.map (·.arg)).filterMap id = ks := by rfl) (h0 : noStar e = true := by rfl) (h1 : es.all noStar = true := by rfl) (hdb : (x == ("__debug__" : Str)) = false := by decide) :
    SE X (.Call (.Name x p) (e :: es) kws pos) (mDef n ks.length gW mf ma mk) := by
  refine ⟨def_len L ha.len hw.len, fun ρ m o m' q B al σ H Q wd rs h pins s I => ?_⟩
  refine wpAny_Call_Name_kw (ld_glob I hg hm ?_ hdb)
  refine PySem.W.callWith_KW (h₀ := X.base) I.ok.mod.kin hk (kw_all hall) (thn (ha.seq (Q' := fun vs H1 => ∀ pins s1 us, Inv X pins σ H1 s1 → Vals vs us → wpAny (model X.prog X.w) X.A (evalAll ((backToKw pos (keywordEach kws X.env)).map (·.2))) (fun ws2 s2 => X.K.In s2.heap ∧ wpAny (model X.prog X.w) X.A (call (.ref f) us (ks.zip ws2)) (EP X pins σ Q) X.xe s2) X.xe s1)
      q wd rs h.res (fun ws m1 q1 l1 B1 al1 vs1 H1 e1 g1 wd1 r1 pins s1 us I1 ru => ?_) pos pins s I)
    fun us s1 ⟨vs, H1, I1, r, q⟩ => by rw [kw_ks hks]; exact q pins s1 us I1 r) (by rw [star_any (es := e :: es) (by rw [List.all_cons, h0, h1]; rfl), kw_any hall]; rfl) (starEach_cons h0)
  refine thn (hw.seq (Q' := fun zs H2 => ∀ pins s2 ks2, Inv X pins σ H2 s2 → Vals zs ks2 → Vals vs1 us → wpAny (model X.prog X.w) X.A (call (.ref f) us (ks.zip ks2)) (EP X pins σ Q) X.xe s2) q1 wd1 (rs.mono e1 g1 l1) (fun c fs z => (h.res c fs z).mono e1 g1 l1) (fun us2 m2 q2 l2 B2 al2 vs2 H2 e2 g2 wd2 r2 pins s2 ks2 I2 rk ru2 => ?_) pos pins s1 I1)
    fun ks2 s2 ⟨zs, H2, I2, rk, q⟩ => ⟨I2.kIn, q pins s2 ks2 I2 rk ru⟩
  split at q2
  · next hl => exact call_run F hr hG hb h (Nat.le_trans l1 l2) (e1.trans e2) (g1.trans g2 l1) wd2 (r1.mono e2 g2 l2) r2 hl.1 hl.2 q2 L I2 ru2 rk
  · cases q2
/-- f(k = v, ..) -/
theorem se_callK0 (F : FnG X.prog X.w X.K X.mg X.base k f fd ps (spM X.K ps.length mf)) (L : LenF mf) (hr : Room k X.A) (hG : X.A.guards = some []) (hb : Bdg X.K fd ps 0 ks gW) (hg : Gl X x) (hm : X.mg x = some (.ref f)) (hk : PySem.W.keepIn X.K (.ref f) = true)
    (hw : SK X kws mk) (hall : (kws.map (·.arg)).all (·.isSome) = true := by rfl) (hks : (kws.map (·.arg)).filterMap id = ks := by rfl) (hdb : (x == ("__debug__" : Str)) = false := by decide) :
    SE X (.Call (.Name x p) [] kws pos) (mDef 0 ks.length gW mf mNil mk) := by
  refine ⟨def_len L (sa_nil (X := X)).len hw.len, fun ρ m o m' q B al σ H Q wd rs h pins s I => ?_⟩
  refine wpAny_Call_Name_kw (ld_glob I hg hm ?_ hdb)
  have q' : bnd (mk ρ m) (fun us m2 => if ([] : List W).length = 0 ∧ us.length = ks.length then cut m.length (mf (gW [] us) m2) else none) = some (o, m') := q
  refine PySem.W.callWith_KW0 (h₀ := X.base) I.ok.mod.kin hk (kw_all hall) ?_ (by show (false || _) = false; rw [kw_any hall]; rfl)
  rw [kw_ks hks]
  refine thn (hw.seq (Q' := fun zs H2 => ∀ pins s2 ks2, Inv X pins σ H2 s2 → Vals zs ks2 → wpAny (model X.prog X.w) X.A (call (.ref f) [] (ks.zip ks2)) (EP X pins σ Q) X.xe s2) q' wd rs h.res (fun us2 m2 q2 l2 B2 al2 vs2 H2 e2 g2 wd2 r2 pins s2 ks2 I2 rk => ?_) pos pins s I)
    fun ks2 s2 ⟨zs, H2, I2, rk, q⟩ => ⟨I2.kIn, q pins s2 ks2 I2 rk⟩
  split at q2
  · next hl => exact call_run (uv := []) (vs := []) (ws := []) F hr hG hb h l2 e2 g2 wd2 trivial r2 rfl hl.2 q2 L I2 .nil rk
  · cases q2
end

end Dm
/-! Dm, part 4: statements, defs. -/
namespace Dm
open PySem PySem.Spec PyProof.Rows L2
open Evl (Ex)

/-! ### statements -/
inductive Fl where
  | nx (ρ : Slots) | rt (w : W) | bk (ρ : Slots) | ct (ρ : Slots) | ex (c : Str) (fs : List (Str × D)) (ρ : Slots)
abbrev SR := Option (Fl × Mem)
abbrev SM := Slots → Mem → SR
def SFlies (X : Cx) (B : Hp) (al : Pl) (n : Nat) (c : Str) (fs : List (Str × D)) (ρ : Slots) (m' : Mem) : Prop :=
  ∃ Wx : WX, Takes X Wx ∧ ∀ B' al' σ' cls oa H', Ex B B' → Agr n al al' → Wd X.K B' al' m' H' → RepS X.K B' al' m'.length σ' ρ → RepX X.K B' cls oa c fs → Wx cls oa σ' H'
def AnsN (K : PySem.W.Frag) (B : Hp) (al : Pl) (n : Nat) (ρ : Slots) (m' : Mem) (N : L2.St → Hp → Prop) : Prop :=
  ∀ B' al' σ' H', Ex B B' → Agr n al al' → Wd K B' al' m' H' → RepS K B' al' m'.length σ' ρ → N σ' H'
def AnsF (X : Cx) (B : Hp) (al : Pl) (n : Nat) (D : Ends) (m' : Mem) : Fl → Prop
  | .nx ρ => AnsN X.K B al n ρ m' D.nx
  | .bk ρ => AnsN X.K B al n ρ m' D.bk
  | .ct ρ => AnsN X.K B al n ρ m' D.ct
  | .rt w => AnsW X.K B al n w m' D.rt
  | .ex c fs ρ => SFlies X B al n c fs ρ m'
theorem AnsN.mono {K : PySem.W.Frag} {B B1 : Hp} {al al1 : Pl} {n n1 : Nat} {ρ : Slots} {m' : Mem} {N : L2.St → Hp → Prop} (e : Ex B B1) (g : Agr n al al1) (l : n ≤ n1) (h : AnsN K B al n ρ m' N) : AnsN K B1 al1 n1 ρ m' N :=
  fun B2 al2 σ2 H2 e2 g2 wd rs => h B2 al2 σ2 H2 (e.trans e2) (g.trans g2 l) wd rs
theorem SFlies.mono {X : Cx} {B B1 : Hp} {al al1 : Pl} {n n1 : Nat} {c : Str} {fs : List (Str × D)} {ρ : Slots} {m' : Mem} (e : Ex B B1) (g : Agr n al al1) (l : n ≤ n1) (h : SFlies X B al n c fs ρ m') : SFlies X B1 al1 n1 c fs ρ m' :=
  let ⟨Wx, t, a⟩ := h
  ⟨Wx, t, fun B2 al2 σ2 cls oa H2 e2 g2 wd rs r => a B2 al2 σ2 cls oa H2 (e.trans e2) (g.trans g2 l) wd rs r⟩
theorem AnsF.mono {X : Cx} {B B1 : Hp} {al al1 : Pl} {n n1 : Nat} {D : Ends} {m' : Mem} {f : Fl} (e : Ex B B1) (g : Agr n al al1) (l : n ≤ n1) (h : AnsF X B al n D m' f) : AnsF X B1 al1 n1 D m' f := by
  cases f with
  | nx ρ => exact AnsN.mono e g l h
  | bk ρ => exact AnsN.mono e g l h
  | ct ρ => exact AnsN.mono e g l h
  | rt w => exact fun B2 al2 v H2 e2 g2 wd2 r => h B2 al2 v H2 (e.trans e2) (g.trans g2 l) wd2 r
  | ex c fs ρ => exact SFlies.mono e g l h
theorem SFlies.at {X : Cx} {B : Hp} {al : Pl} {n : Nat} {c : Str} {fs : List (Str × D)} {ρ : Slots} {m' : Mem} {σ : L2.St} (h : SFlies X B al n c fs ρ m') (rs : RepS X.K B al n σ ρ) (l : n ≤ m'.length) : Flies X B al n σ c fs m' :=
  let ⟨Wx, t, a⟩ := h
  ⟨Wx, t, fun B2 al2 cls oa H2 e2 g2 wd r => a B2 al2 σ cls oa H2 e2 g2 wd (rs.mono e2 g2 l) r⟩
/-- an expression, then the rest of the statement -/
def sbd {α : Type} (x : Run α) (ρ : Slots) (k : α → Mem → SR) : SR := match x with
  | none => none
  | some (.ok a, m) => k a m
  | some (.ex c fs, m) => some (.ex c fs ρ, m)
@[simp] theorem sbd_ok {α : Type} (a : α) (m : Mem) (ρ : Slots) (k : α → Mem → SR) : sbd (some (.ok a, m)) ρ k = k a m := rfl
@[simp] theorem sbd_ret {α : Type} (a : α) (m : Mem) (ρ : Slots) (k : α → Mem → SR) : sbd (ret a m) ρ k = k a m := rfl
@[simp] theorem sbd_rd (d : D) (m : Mem) (ρ : Slots) (k : W → Mem → SR) : sbd (rd d m) ρ k = k (.dat d) m := rfl
@[simp] theorem sbd_ex {α : Type} (c : Str) (fs : List (Str × D)) (m : Mem) (ρ : Slots) (k : α → Mem → SR) : sbd (some (.ex c fs, m)) ρ k = some (.ex c fs ρ, m) := rfl
theorem sbd_cases {α : Type} {x : Run α} {ρ : Slots} {k : α → Mem → SR} {f : Fl} {m' : Mem} (h : sbd x ρ k = some (f, m')) : (∃ a m1, x = some (.ok a, m1) ∧ k a m1 = some (f, m')) ∨ ∃ c fs, x = some (.ex c fs, m') ∧ f = .ex c fs ρ := by
  cases x with
  | none => cases h
  | some p =>
    obtain ⟨o1, m1⟩ := p
    cases o1 with
    | ok a => exact .inl ⟨a, m1, rfl, h⟩
    | ex c fs =>
      have e : (some (Fl.ex c fs ρ, m1) : SR) = some (f, m') := h
      cases e
      exact .inr ⟨c, fs, rfl, rfl⟩
theorem sbd_len {α : Type} {x : Run α} {ρ : Slots} {k : α → Mem → SR} {f : Fl} {m m' : Mem} (h : sbd x ρ k = some (f, m')) (h1 : ∀ o1 m1, x = some (o1, m1) → m.length ≤ m1.length) (h2 : ∀ a m1, k a m1 = some (f, m') → m1.length ≤ m'.length) : m.length ≤ m'.length := by
  rcases sbd_cases h with ⟨w, m1, e1, e2⟩ | ⟨c, fs, e1, rfl⟩
  · exact Nat.le_trans (h1 _ _ e1) (h2 _ _ e2)
  · exact h1 _ _ e1
def wS (X : Cx) (st : Stmt) : TS := fun D σ H => ∀ (pins : List (Addr × Obj)) (s : Shared), Inv X pins σ H s → wpAny (model X.prog X.w) X.A (exec st X.env) (SP X pins D) X.xe s
theorem ps_w {X : Cx} {st : Stmt} : PS X st (wS X st) := ⟨fun pins s σ H D I h => h pins s I⟩
def wSs (X : Cx) (st : List Stmt) : TS := fun D σ H => ∀ (pins : List (Addr × Obj)) (s : Shared), Inv X pins σ H s → wpAny (model X.prog X.w) X.A (execs st X.env) (SP X pins D) X.xe s
theorem pss_w {X : Cx} {st : List Stmt} : PSs X st (wSs X st) := ⟨fun pins s σ H D I h => h pins s I⟩
structure SS (X : Cx) (st : Stmt) (mm : SM) : Prop where
  len : ∀ ρ m f m', mm ρ m = some (f, m') → m.length ≤ m'.length
  run : ∀ ρ m f m', mm ρ m = some (f, m') → ∀ B al σ H D, Wd X.K B al m H → RepS X.K B al m.length σ ρ → AnsF X B al m.length D m' f → wS X st D σ H
structure SSs (X : Cx) (st : List Stmt) (mm : SM) : Prop where
  len : ∀ ρ m f m', mm ρ m = some (f, m') → m.length ≤ m'.length
  run : ∀ ρ m f m', mm ρ m = some (f, m') → ∀ B al σ H D, Wd X.K B al m H → RepS X.K B al m.length σ ρ → AnsF X B al m.length D m' f → wSs X st D σ H
def sSeq (a b : SM) : SM := fun ρ m => match a ρ m with
  | some (.nx ρ1, m1) => b ρ1 m1
  | x => x
def sNil : SM := fun ρ m => some (.nx ρ, m)
@[simp] theorem sSeq_nx {a b : SM} {ρ ρ1 : Slots} {m m1 : Mem} (h : a ρ m = some (.nx ρ1, m1)) : sSeq a b ρ m = b ρ1 m1 := by
  unfold sSeq; rw [h]
theorem sSeq_cases {a b : SM} {ρ : Slots} {m m' : Mem} {f : Fl} (h : sSeq a b ρ m = some (f, m')) : (∃ ρ1 m1, a ρ m = some (.nx ρ1, m1) ∧ b ρ1 m1 = some (f, m')) ∨ (a ρ m = some (f, m') ∧ ∀ ρ1, f ≠ .nx ρ1) := by
  unfold sSeq at h
  split at h
  · next ρ1 m1 e => exact .inl ⟨ρ1, m1, e, h⟩
  · next e => exact .inr ⟨h, fun ρ1 q => e ρ1 m' (by rw [h, q])⟩
section
variable {X : Cx} {st : Stmt} {rest : List Stmt} {a b : SM} {e : Expr} {me : EM} {pos : Pos}
theorem AnsF.nxAny {B : Hp} {al : Pl} {n : Nat} {D : Ends} {m' : Mem} {f : Fl} (h : AnsF X B al n D m' f) (hn : ∀ ρ, f ≠ .nx ρ) (N : L2.St → Hp → Prop) : AnsF X B al n { D with nx := N } m' f := by
  cases f with
  | nx ρ => exact absurd rfl (hn ρ)
  | _ => exact h
theorem sss_nil : SSs X [] sNil := ⟨fun ρ m f m' q => by cases q; exact Nat.le_refl _, fun ρ m f m' q B al σ H D wd rs h pins s I => by
  cases q
  exact pss_nil.run pins s σ H D I (h B al σ H (Ex.refl B) Agr.refl wd rs)⟩
theorem sss_cons (h1 : SS X st a) (h2 : SSs X rest b) : SSs X (st :: rest) (sSeq a b) := by
  refine ⟨fun ρ m f m' q => ?_, fun ρ m f m' q B al σ H D wd rs h pins s I => (pss_cons ps_w pss_w).run pins s σ H D I ?_⟩
  · rcases sSeq_cases q with ⟨ρ1, m1, e1, e2⟩ | ⟨e1, _⟩
    · exact Nat.le_trans (h1.len _ _ _ _ e1) (h2.len _ _ _ _ e2)
    · exact h1.len _ _ _ _ e1
  · rcases sSeq_cases q with ⟨ρ1, m1, e1, e2⟩ | ⟨e1, hn⟩
    · exact h1.run _ _ _ _ e1 B al σ H _ wd rs fun B1 al1 σ1 H1 ex1 g1 wd1 rs1 => h2.run _ _ _ _ e2 B1 al1 σ1 H1 D wd1 rs1 (h.mono ex1 g1 (h1.len _ _ _ _ e1))
    · exact h1.run _ _ _ _ e1 B al σ H _ wd rs (h.nxAny hn _)
theorem sss_one (h1 : SS X st a) : SSs X [st] a := ⟨h1.len, fun ρ m f m' q B al σ H D wd rs h pins s I => (pss_one ps_w).run pins s σ H D I (h1.run _ _ _ _ q B al σ H D wd rs h)⟩
/-- an expression in a statement -/
theorem SE.ssq {B : Hp} {al : Pl} {σ : L2.St} {H : Hp} {ρ : Slots} {m m' : Mem} {f : Fl} {D : Ends} {k : W → Mem → SR} {Q' : VK} (he : SE X e me) (hr : sbd (me ρ m) ρ k = some (f, m')) (wd : Wd X.K B al m H) (rs : RepS X.K B al m.length σ ρ) (h : AnsF X B al m.length D m' f)
    (hk : ∀ w m1, k w m1 = some (f, m') → m.length ≤ m1.length → AnsW X.K B al m.length w m1 Q') : wE X e σ H Q' := by
  rcases sbd_cases hr with ⟨w, m1, e1, e2⟩ | ⟨c, fs, e1, rfl⟩
  · exact he.run ρ m _ _ e1 B al σ H Q' wd rs (hk w m1 e2 (he.len _ _ _ _ e1))
  · exact he.run ρ m _ _ e1 B al σ H Q' wd rs (SFlies.at h rs (he.len _ _ _ _ e1))
theorem ST.ssq {B : Hp} {al : Pl} {σ : L2.St} {H : Hp} {ρ : Slots} {m m' : Mem} {f : Fl} {D : Ends} {k : Bool → Mem → SR} {Q' : Bool → Hp → Prop} {mt : TM} (he : ST X e mt) (hr : sbd (mt ρ m) ρ k = some (f, m')) (wd : Wd X.K B al m H) (rs : RepS X.K B al m.length σ ρ) (h : AnsF X B al m.length D m' f)
    (hk : ∀ b m1, k b m1 = some (f, m') → m.length ≤ m1.length → ∀ B' al' H', Ex B B' → Agr m.length al al' → Wd X.K B' al' m1 H' → Q' b H') : wT X e σ H Q' := by
  rcases sbd_cases hr with ⟨w, m1, e1, e2⟩ | ⟨c, fs, e1, rfl⟩
  · exact he.run ρ m _ _ e1 B al σ H Q' wd rs (hk w m1 e2 (he.len _ _ _ _ e1))
  · exact he.run ρ m _ _ e1 B al σ H Q' wd rs (SFlies.at h rs (he.len _ _ _ _ e1))
theorem SA.ssq {B : Hp} {al : Pl} {σ : L2.St} {H : Hp} {ρ : Slots} {m m' : Mem} {f : Fl} {D : Ends} {k : List W → Mem → SR} {Q' : List V → Hp → Prop} {es : List Expr} {mt : AM} (he : SA X es mt) (hr : sbd (mt ρ m) ρ k = some (f, m')) (wd : Wd X.K B al m H) (rs : RepS X.K B al m.length σ ρ) (h : AnsF X B al m.length D m' f)
    (hk : ∀ ws m1, k ws m1 = some (f, m') → m.length ≤ m1.length → ∀ B' al' vs H', Ex B B' → Agr m.length al al' → Wd X.K B' al' m1 H' → RepL X.K B' al' m1.length vs ws → Q' vs H') : wA X es σ H Q' := by
  rcases sbd_cases hr with ⟨w, m1, e1, e2⟩ | ⟨c, fs, e1, rfl⟩
  · exact he.run ρ m _ _ e1 B al σ H Q' wd rs (hk w m1 e2 (he.len _ _ _ _ e1))
  · exact he.run ρ m _ _ e1 B al σ H Q' wd rs (SFlies.at h rs (he.len _ _ _ _ e1))
/-- name = e -/
def sSet (i : Nat) (me : EM) : SM := fun ρ m => sbd (me ρ m) ρ fun w m1 => some (.nx (ρ.set i (some w)), m1)
theorem ss_set (i : Nat) {x : Str} {pos' : Pos} (hN : X.N.Nodup) (hi : X.N[i]? = some x) (hx : Loc X.env.scope x) (he : SE X e me) (hs : swapsWith e (some (.Name x pos')) pos.line X.env = pure false) (hf : X.fn x = true ∨ X.env.scope.names.lookup x = some .local) :
    SS X (.Assign [.Name x pos'] e pos) (sSet i me) := by
  refine ⟨fun ρ m f m' q => sbd_len q (he.len ρ m) fun w m1 q1 => by cases q1; exact Nat.le_refl _, fun ρ m f m' q B al σ H D wd rs h pins s I => (ps_set hN hi hx pe_w hs hf).run pins s σ H D I ?_⟩
  refine he.ssq q wd rs h fun w m1 q1 l1 B1 al1 v1 H1 e1 g1 wd1 r1 => ?_
  cases q1
  exact h B1 al1 _ H1 e1 g1 wd1 ((rs.mono e1 g1 l1).set r1)
/-- return e -/
def sRet (me : EM) : SM := fun ρ m => sbd (me ρ m) ρ fun w m1 => some (.rt w, m1)
theorem ss_ret (he : SE X e me) : SS X (.Return (some e) pos) (sRet me) := by
  refine ⟨fun ρ m f m' q => sbd_len q (he.len ρ m) fun w m1 q1 => by cases q1; exact Nat.le_refl _, fun ρ m f m' q B al σ H D wd rs h pins s I => (ps_ret pe_w).run pins s σ H D I ?_⟩
  refine he.ssq q wd rs h fun w m1 q1 l1 B1 al1 v1 H1 e1 g1 wd1 r1 => ?_
  cases q1
  exact h B1 al1 v1 H1 e1 g1 wd1 r1
def sRetN : SM := fun _ m => some (.rt (.dat .non), m)
theorem ss_retN : SS X (.Return none pos) sRetN := ⟨fun ρ m f m' q => by cases q; exact Nat.le_refl _, fun ρ m f m' q B al σ H D wd rs h pins s I => by
  cases q
  exact ps_retN.run pins s σ H D I (h B al .non H (Ex.refl B) Agr.refl wd .non)⟩
def sPass : SM := fun ρ m => some (.nx ρ, m)
theorem ss_pass : SS X (.Pass pos) sPass := ⟨fun ρ m f m' q => by cases q; exact Nat.le_refl _, fun ρ m f m' q B al σ H D wd rs h pins s I => by
  cases q
  exact ps_pass.run pins s σ H D I (h B al σ H (Ex.refl B) Agr.refl wd rs)⟩
def sBreak : SM := fun ρ m => some (.bk ρ, m)
theorem ss_break : SS X (.Break pos) sBreak := ⟨fun ρ m f m' q => by cases q; exact Nat.le_refl _, fun ρ m f m' q B al σ H D wd rs h pins s I => by
  cases q
  exact ps_break.run pins s σ H D I (h B al σ H (Ex.refl B) Agr.refl wd rs)⟩
def sCont : SM := fun ρ m => some (.ct ρ, m)
theorem ss_continue : SS X (.Continue pos) sCont := ⟨fun ρ m f m' q => by cases q; exact Nat.le_refl _, fun ρ m f m' q B al σ H D wd rs h pins s I => by
  cases q
  exact ps_continue.run pins s σ H D I (h B al σ H (Ex.refl B) Agr.refl wd rs)⟩
/-- an expression whose value is dropped -/
def sDrop (me : EM) : SM := fun ρ m => sbd (me ρ m) ρ fun _ m1 => some (.nx ρ, m1)
theorem ss_expr (he : SE X e me) (hs : swapsWith e none pos.line X.env = pure false) : SS X (.Expr e pos) (sDrop me) := by
  refine ⟨fun ρ m f m' q => sbd_len q (he.len ρ m) fun w m1 q1 => by cases q1; exact Nat.le_refl _, fun ρ m f m' q B al σ H D wd rs h pins s I => (ps_expr pe_w hs).run pins s σ H D I ?_⟩
  refine he.ssq q wd rs h fun w m1 q1 l1 B1 al1 v1 H1 e1 g1 wd1 r1 => ?_
  cases q1
  exact h B1 al1 σ H1 e1 g1 wd1 (rs.mono e1 g1 l1)
theorem ss_doc {x : Str} {j : Option Str} {k : Nat} {pos' : Pos} : SS X (.Expr (.Constant (.str x) k pos) pos') sPass := ⟨fun ρ m f m' q => by cases q; exact Nat.le_refl _, fun ρ m f m' q B al σ H D wd rs h pins s I => by
  cases q
  exact ps_doc.run pins s σ H D I (h B al σ H (Ex.refl B) Agr.refl wd rs)⟩
def sIf (mt : TM) (a b : SM) : SM := fun ρ m => sbd (mt ρ m) ρ fun c m1 => match c with
  | true => a ρ m1
  | false => b ρ m1
theorem ss_if {c : Expr} {mt : TM} {sa sb : List Stmt} (hc : ST X c mt) (ha : SSs X sa a) (hb : SSs X sb b) : SS X (.If c sa sb pos) (sIf mt a b) := by
  refine ⟨fun ρ m f m' q => sbd_len q (hc.len ρ m) fun w m1 q1 => by
    cases w with
    | true => exact ha.len _ _ _ _ q1
    | false => exact hb.len _ _ _ _ q1, fun ρ m f m' q B al σ H D wd rs h pins s I => (ps_if pt_w pss_w pss_w).run pins s σ H D I ?_⟩
  refine hc.ssq q wd rs h fun w m1 q1 l1 B1 al1 H1 e1 g1 wd1 => ?_
  cases w with
  | true =>
    rw [if_pos rfl]
    exact ha.run _ _ _ _ q1 B1 al1 σ H1 D wd1 (rs.mono e1 g1 l1) (h.mono e1 g1 l1)
  | false =>
    rw [if_neg Bool.false_ne_true]
    exact hb.run _ _ _ _ q1 B1 al1 σ H1 D wd1 (rs.mono e1 g1 l1) (h.mono e1 g1 l1)
end

/-! ### targets -/
/-- a target takes a value -/
abbrev GM := W → Slots → Mem → SR
def GNx (mg : GM) : Prop := ∀ w ρ m f m', mg w ρ m = some (f, m') → ∃ ρ', f = .nx ρ'
structure SG (X : Cx) (tg : Expr) (mg : GM) : Prop where
  len : ∀ w ρ m f m', mg w ρ m = some (f, m') → m.length ≤ m'.length
  nx : GNx mg
  run : ∀ w ρ m ρ' m', mg w ρ m = some (.nx ρ', m') → ∀ B al σ H v Q, Wd X.K B al m H → RepS X.K B al m.length σ ρ → RepW X.K B al m.length v w → AnsN X.K B al m.length ρ' m' Q →
    ∀ (pins : List (Addr × Obj)) (s : Shared) (u : Value), Inv X pins σ H s → RelV v u → wpAny (model X.prog X.w) X.A (assign tg X.env u) (fun _ s' => ∃ σ' H', Inv X pins σ' H' s' ∧ Q σ' H') X.xe s
def gSet (i : Nat) : GM := fun w ρ m => some (.nx (ρ.set i (some w)), m)
def wG (X : Cx) (tg : Expr) : TG := fun v σ H Q => ∀ (pins : List (Addr × Obj)) (s : Shared) (u : Value), Inv X pins σ H s → RelV v u → wpAny (model X.prog X.w) X.A (assign tg X.env u) (fun _ s' => ∃ σ' H', Inv X pins σ' H' s' ∧ Q σ' H') X.xe s
theorem pg_w {X : Cx} {tg : Expr} : PG X tg (wG X tg) := ⟨fun pins s σ H v u Q I r h => h pins s u I r⟩
section
variable {X : Cx} {pos : Pos}
theorem sg_name (i : Nat) {x : Str} (hN : X.N.Nodup) (hi : X.N[i]? = some x) (hx : Loc X.env.scope x) (hf : X.fn x = true ∨ X.env.scope.names.lookup x = some .local) : SG X (.Name x pos) (gSet i) := by
  refine ⟨fun w ρ m f m' q => by cases q; exact Nat.le_refl _, fun w ρ m f m' q => by cases q; exact ⟨_, rfl⟩, fun w ρ m ρ' m' q B al σ H v Q wd rs r h pins s u I ru => (pg_name hN hi hx hf).run pins s σ H v u Q I ru ?_⟩
  cases q
  exact h B al _ H (Ex.refl B) Agr.refl wd (rs.set r)
/-- several targets, in turn -/
structure SGs (X : Cx) (ts : List Expr) (mg : List W → Slots → Mem → SR) : Prop where
  len : ∀ ws ρ m f m', mg ws ρ m = some (f, m') → m.length ≤ m'.length
  nx : ∀ ws ρ m f m', mg ws ρ m = some (f, m') → ∃ ρ', f = .nx ρ'
  run : ∀ ws ρ m ρ' m', mg ws ρ m = some (.nx ρ', m') → ∀ B al σ H vs Q, Wd X.K B al m H → RepS X.K B al m.length σ ρ → RepL X.K B al m.length vs ws → AnsN X.K B al m.length ρ' m' Q →
    ∀ (pins : List (Addr × Obj)) (s : Shared) (us : List Value), Inv X pins σ H s → Vals vs us → wpAny (model X.prog X.w) X.A (assignInOrder ((assignEach ts X.env).map (·.2)) us) (fun _ s' => ∃ σ' H', Inv X pins σ' H' s' ∧ Q σ' H') X.xe s
def wGs (X : Cx) (ts : List Expr) : TGs := fun vs σ H Q => ∀ (pins : List (Addr × Obj)) (s : Shared) (us : List Value), Inv X pins σ H s → Vals vs us → wpAny (model X.prog X.w) X.A (assignInOrder ((assignEach ts X.env).map (·.2)) us) (fun _ s' => ∃ σ' H', Inv X pins σ' H' s' ∧ Q σ' H') X.xe s
theorem pgs_w {ts : List Expr} : PGs X ts (wGs X ts) := ⟨fun pins s σ H vs us Q I r h => h pins s us I r⟩
def gNils : List W → Slots → Mem → SR := fun ws ρ m => match ws with
  | [] => some (.nx ρ, m)
  | _ => none
def gConss (g : GM) (gs : List W → Slots → Mem → SR) : List W → Slots → Mem → SR := fun ws ρ m => match ws with
  | w :: r => (match g w ρ m with
    | some (.nx ρ1, m1) => gs r ρ1 m1
    | _ => none)
  | [] => none
theorem sgs_nil : SGs X [] gNils := by
  refine ⟨fun ws ρ m f m' q => ?_, fun ws ρ m f m' q => ?_, fun ws ρ m ρ' m' q B al σ H vs Q wd rs r h pins s us I ru => ?_⟩
  · cases ws with
    | nil => cases q; exact Nat.le_refl _
    | cons => cases q
  · cases ws with
    | nil => cases q; exact ⟨_, rfl⟩
    | cons => cases q
  · cases ws with
    | cons => cases q
    | nil =>
      cases q
      cases vs with
      | cons => exact r.elim
      | nil => exact pgs_nil.run pins s σ H [] us Q I ru ⟨rfl, h B al σ H (Ex.refl B) Agr.refl wd rs⟩
theorem gConss_cases {g : GM} {gs : List W → Slots → Mem → SR} {ws : List W} {ρ : Slots} {m m' : Mem} {f : Fl} (q : gConss g gs ws ρ m = some (f, m')) : ∃ w r ρ1 m1, ws = w :: r ∧ g w ρ m = some (.nx ρ1, m1) ∧ gs r ρ1 m1 = some (f, m') := by
  cases ws with
  | nil => cases q
  | cons w r =>
    have q' : (match g w ρ m with
      | some (.nx ρ1, m1) => gs r ρ1 m1
      | _ => none) = some (f, m') := q
    split at q'
    · next ρ1 m1 e => exact ⟨w, r, ρ1, m1, rfl, e, q'⟩
    · cases q'
/-- a target without a star -/
theorem assignEach_cons {e : Expr} {es : List Expr} {env : Env} (h : noStar e = true) : (assignEach (e :: es) env).map (·.2) = assign e env :: (assignEach es env).map (·.2) := by
  cases e <;> first | rfl | cases h
theorem assignEach_len {env : Env} : ∀ {es : List Expr}, (assignEach es env).length = es.length
  | [] => rfl
  | e :: r => by
    cases e <;> exact congrArg (· + 1) (assignEach_len (env := env) (es := r))
theorem assignEach_star {env : Env} : ∀ {es : List Expr}, es.all noStar = true → (assignEach es env).findIdx? (·.1) = none
  | [], _ => rfl
  | e :: r, h => by
    have h' : (noStar e && r.all noStar) = true := by simpa using h
    rw [Bool.and_eq_true] at h'
    have ih := assignEach_star (env := env) (es := r) h'.2
    have e2 : ∃ t, assignEach (e :: r) env = (false, t) :: assignEach r env := by
      cases e <;> first | exact ⟨_, rfl⟩ | cases h'.1
    obtain ⟨t, e2⟩ := e2
    rw [e2, List.findIdx?_cons, ih]
    rfl
theorem sgs_cons {e : Expr} {es : List Expr} {g : GM} {gs : List W → Slots → Mem → SR} (h1 : SG X e g) (h2 : SGs X es gs) (hs : noStar e = true := by rfl) : SGs X (e :: es) (gConss g gs) := by
  refine ⟨fun ws ρ m f m' q => ?_, fun ws ρ m f m' q => ?_, fun ws ρ m ρ' m' q B al σ H vs Q wd rs r h pins s us I ru => ?_⟩
  · obtain ⟨w, r, ρ1, m1, rfl, e1, e2⟩ := gConss_cases q
    exact Nat.le_trans (h1.len _ _ _ _ _ e1) (h2.len _ _ _ _ _ e2)
  · obtain ⟨w, r, ρ1, m1, rfl, e1, e2⟩ := gConss_cases q
    exact h2.nx _ _ _ _ _ e2
  · obtain ⟨w, rw_, ρ1, m1, rfl, e1, e2⟩ := gConss_cases q
    cases vs with
    | nil => exact r.elim
    | cons v vr =>
      refine (pgs_cons pg_w pgs_w (assignEach_cons hs)).run pins s σ H (v :: vr) us Q I ru ⟨v, vr, rfl, ?_⟩
      refine h1.run w ρ m ρ1 m1 e1 B al σ H v _ wd rs r.1 fun B1 al1 σ1 H1 ex1 g1 wd1 rs1 => ?_
      exact h2.run rw_ ρ1 m1 ρ' m' e2 B1 al1 σ1 H1 vr Q wd1 rs1 (r.2.mono ex1 g1 (h1.len _ _ _ _ _ e1)) (h.mono ex1 g1 (h1.len _ _ _ _ _ e1))
/-- (a, b, ..) = a tuple -/
def gTupM (n : Nat) (gs : List W → Slots → Mem → SR) : GM := fun w ρ m => match w with
  | .dat (.tup ds) => if ds.length = n then gs (ds.map .dat) ρ m else none
  | _ => none
theorem RepL.ofD {K : PySem.W.Frag} {B : Hp} {al : Pl} {n : Nat} : ∀ {vs : List V} {ds : List D}, Reps K B vs ds → RepL K B al n vs (ds.map .dat)
  | _, _, .nil => trivial
  | _, _, .cons r rs => ⟨r, RepL.ofD rs⟩
theorem gTupM_cases {n : Nat} {gs : List W → Slots → Mem → SR} {w : W} {ρ : Slots} {m m' : Mem} {f : Fl} (q : gTupM n gs w ρ m = some (f, m')) : ∃ ds, w = .dat (.tup ds) ∧ ds.length = n ∧ gs (ds.map .dat) ρ m = some (f, m') := by
  unfold gTupM at q
  split at q
  · next ds =>
    split at q
    · next hl => exact ⟨ds, rfl, hl, q⟩
    · cases q
  · cases q
theorem sg_tup {es : List Expr} {k : Nat} {gs : List W → Slots → Mem → SR} (hc : X.calm = true) (h : SGs X es gs) (hs : es.all noStar = true := by rfl) : SG X (.Tuple es k pos) (gTupM es.length gs) := by
  refine ⟨fun w ρ m f m' q => ?_, fun w ρ m f m' q => ?_, fun w ρ m ρ' m' q B al σ H v Q wd rs r ha pins s u I ru => ?_⟩
  · obtain ⟨ds, rfl, hl, q1⟩ := gTupM_cases q
    exact h.len _ _ _ _ _ q1
  · obtain ⟨ds, rfl, hl, q1⟩ := gTupM_cases q
    exact h.nx _ _ _ _ _ q1
  · obtain ⟨ds, rfl, hl, q1⟩ := gTupM_cases q
    obtain ⟨a, vs, rfl, ⟨hq, _⟩, rr⟩ : ∃ a vs, v = .ref a ∧ (SqT X.K H a vs ∧ SqT X.K B a vs) ∧ Reps X.K B vs ds := Rep.vw wd.ext (show Rep X.K B v (.tup ds) from r)
    refine (pg_tup hc pgs_w assignEach_len (assignEach_star hs)).run pins s σ H _ u Q I ru ⟨a, vs, rfl, hq, rr.length.trans hl, ?_⟩
    exact h.run _ ρ m ρ' m' q1 B al σ H vs Q wd rs (RepL.ofD rr) ha
/-- target = e -/
def sAsg (me : EM) (mg : GM) : SM := fun ρ m => sbd (me ρ m) ρ fun w m1 => mg w ρ m1
theorem ss_asg {tg e : Expr} {me : EM} {mg : GM} (he : SE X e me) (hg : SG X tg mg) (hs : swapsWithSole [tg] e pos.line X.env = pure false) (hw : swappedStores [tg] e X.env = pure none) (hn : noStar tg = true := by rfl) : SS X (.Assign [tg] e pos) (sAsg me mg) := by
  refine ⟨fun ρ m f m' q => sbd_len q (he.len ρ m) fun w m1 q1 => hg.len _ _ _ _ _ q1, fun ρ m f m' q B al σ H D wd rs h pins s I => (ps_asg pe_w pg_w hs hw (assignEach_cons hn)).run pins s σ H D I ?_⟩
  refine he.ssq q wd rs h fun w m1 q1 l1 B1 al1 v1 H1 e1 g1 wd1 r1 => ?_
  obtain ⟨ρ', rfl⟩ := hg.nx _ _ _ _ _ q1
  exact hg.run w ρ m1 ρ' m' q1 B1 al1 σ H1 v1 D.nx wd1 (rs.mono e1 g1 l1) r1 (AnsN.mono e1 g1 l1 h)
/-- a, b = x, y with plain names -/
def sPar (i j : Nat) (ma : AM) : SM := fun ρ m => sbd (ma ρ m) ρ fun ws m1 => match ws with
  | [v, w] => some (.nx ((ρ.set i (some v)).set j (some w)), m1)
  | _ => none
theorem ss_par (i j : Nat) {x y : Str} {a b : Expr} {ma : AM} {px py pt : Pos} {kt k2 : Nat} {pt2 : Pos} (hc : X.calm = true) (hN : X.N.Nodup) (hi : X.N[i]? = some x) (hj : X.N[j]? = some y) (hij : i ≠ j)
    (hx : X.env.scope.names.lookup x = some .local) (hy : X.env.scope.names.lookup y = some .local) (ha : SA X [a, b] ma)
    (hw : swappedStores [.Tuple [.Name x px, .Name y py] kt pt] (.Tuple [a, b] k2 pt2) X.env = pure (some [x, y]))
    (hs : swapsWithSole [.Tuple [.Name x px, .Name y py] kt pt] (.Tuple [a, b] k2 pt2) pos.line X.env = pure false) :
    SS X (.Assign [.Tuple [.Name x px, .Name y py] kt pt] (.Tuple [a, b] k2 pt2) pos) (sPar i j ma) := by
  have inv : ∀ {ws : List W} {ρ : Slots} {m1 m' : Mem} {f : Fl}, (match ws with
    | [v, w] => (some (Fl.nx ((ρ.set i (some v)).set j (some w)), m1) : SR)
    | _ => none) = some (f, m') → ∃ v w, ws = [v, w] ∧ f = .nx ((ρ.set i (some v)).set j (some w)) ∧ m' = m1 := fun {ws ρ m1 m' f} q => by
    split at q
    · cases q; exact ⟨_, _, rfl, rfl, rfl⟩
    · cases q
  refine ⟨fun ρ m f m' q => sbd_len q (ha.len ρ m) fun w m1 q1 => by
    obtain ⟨_, _, _, _, rfl⟩ := inv q1
    exact Nat.le_refl _, fun ρ m f m' q B al σ H D wd rs h pins s I => (ps_par hc hN hi hj hij hx hy pa_w hw hs).run pins s σ H D I ?_⟩
  refine ha.ssq q wd rs h fun ws m1 q1 l1 B1 al1 vs1 H1 e1 g1 wd1 r1 => ?_
  obtain ⟨v, w, rfl, rfl, rfl⟩ := inv q1
  match vs1, r1 with
  | [a1, b1], r1 => exact ⟨a1, b1, rfl, h B1 al1 _ H1 e1 g1 wd1 (((rs.mono e1 g1 l1).set r1.1).set r1.2.1)⟩
end

/-! ### a def keeps its promise -/
/-- the body, from the arguments to what is handed back -/
def mFn (N : List Str) (body : SM) : FM := fun ws m => match body (ws.map some ++ List.replicate (N.length - ws.length) none) m with
  | some (.rt w, m1) => some (.ok w, m1)
  | some (.nx _, m1) => rd .non m1
  | some (.ex c fs _, m1) => some (.ex c fs, m1)
  | _ => none
theorem mFn_cases {N : List Str} {body : SM} {ws : List W} {m m' : Mem} {o : Out W} (q : mFn N body ws m = some (o, m')) :
    (∃ w, body (ws.map some ++ List.replicate (N.length - ws.length) none) m = some (.rt w, m') ∧ o = .ok w) ∨ (∃ ρ, body (ws.map some ++ List.replicate (N.length - ws.length) none) m = some (.nx ρ, m') ∧ o = .ok (.dat .non)) ∨
      ∃ c fs ρ, body (ws.map some ++ List.replicate (N.length - ws.length) none) m = some (.ex c fs ρ, m') ∧ o = .ex c fs := by
  unfold mFn at q
  split at q
  · next w m1 e => cases q; exact .inl ⟨w, e, rfl⟩
  · next ρ m1 e => cases q; exact .inr (.inl ⟨ρ, e, rfl⟩)
  · next c fs ρ m1 e => cases q; exact .inr (.inr ⟨c, fs, ρ, e, rfl⟩)
  · cases q
theorem repS_start {K : PySem.W.Frag} {B : Hp} {al : Pl} {n : Nat} {N : List Str} : ∀ {vs : List V} {ws : List W}, RepL K B al n vs ws → RepS K B al n (L2.start N vs) (ws.map some ++ List.replicate (N.length - ws.length) none) := by
  intro vs ws r
  have hl := r.length
  refine ⟨by unfold L2.start; simp [hl], fun i w hw => ?_⟩
  have get : ∀ {vs : List V} {ws : List W} {i : Nat}, RepL K B al n vs ws → ws[i]? = some w → ∃ v, vs[i]? = some v ∧ RepW K B al n v w := by
    intro vs
    induction vs with
    | nil =>
      intro ws i r e
      cases ws with
      | nil => simp at e
      | cons => exact r.elim
    | cons v vs ih =>
      intro ws i r e
      cases ws with
      | nil => exact r.elim
      | cons w' ws =>
        cases i with
        | zero =>
          have : w' = w := by simpa using e
          subst this
          exact ⟨v, rfl, r.1⟩
        | succ i =>
          obtain ⟨v', h1, h2⟩ := ih (i := i) r.2 (by simpa using e)
          exact ⟨v', by simpa using h1, h2⟩
  rw [List.getElem?_append] at hw
  split at hw
  · next hi =>
    rw [List.getElem?_map] at hw
    cases q : ws[i]? with
    | none => rw [q] at hw; cases hw
    | some w' =>
      rw [q] at hw
      have e : w' = w := by simpa using hw
      subst e
      obtain ⟨v, h1, h2⟩ := get r q
      refine ⟨v, ?_, h2⟩
      unfold L2.start
      have hi' : i < (vs.map some).length := by simpa [hl] using hi
      rw [List.getElem?_append_left hi', List.getElem?_map, h1]
      rfl
  · rw [List.getElem?_replicate] at hw
    split at hw <;> cases hw
end Dm
/-! Dm, part 5: what is walked; loops; comprehensions; the rule for a def. -/
namespace Dm
open PySem PySem.Spec PyProof.Rows L2
open Evl (Ex)

/-! ### what is walked -/
/-- from a frozen heap on, the iterator gives these data -/
def Yields (K : PySem.W.Frag) (B1 : Hp) (J : It) (ds : List D) : Prop := ∀ (i : Nat) (B H : Hp), Ex B1 B → Ex B H →
  (∀ d, ds[i]? = some d → J.go i H ∧ ∀ x H', J.yld i H x H' → ∃ B', Gr B B' H H' ∧ Rep K B' x d) ∧ (ds.length ≤ i → J.stop i H)
abbrev IM := Slots → Mem → Run (List D)
def wI (X : Cx) (tg iter : Expr) : TI := fun σ H R => ∀ (pins : List (Addr × Obj)) (s : Shared), Inv X pins σ H s →
  wpAny (model X.prog X.w) X.A (eval iter X.env) (fun v s1 => wpAny (model X.prog X.w) X.A (pyIter v) (PIE X pins σ tg R) X.xe s1) X.xe s
theorem pi_w {X : Cx} {tg iter : Expr} : PI X tg iter (wI X tg iter) := ⟨fun pins s σ H R I h => h pins s I⟩
def AnsI (X : Cx) (B : Hp) (al : Pl) (n : Nat) (σ : L2.St) (R : It → Hp → Prop) (m' : Mem) : Out (List D) → Prop
  | .ok ds => ∀ B' al' J H', Ex B B' → Agr n al al' → Wd X.K B' al' m' H' → Yields X.K B' J ds → R J H'
  | .ex c fs => Flies X B al n σ c fs m'
structure SI (X : Cx) (tg iter : Expr) (mi : IM) : Prop where
  len : ∀ ρ m o m', mi ρ m = some (o, m') → m.length ≤ m'.length
  run : ∀ ρ m o m', mi ρ m = some (o, m') → ∀ B al σ H R, Wd X.K B al m H → RepS X.K B al m.length σ ρ → AnsI X B al m.length σ R m' o → wI X tg iter σ H R
theorem AnsI.res {X : Cx} {B : Hp} {al : Pl} {n : Nat} {σ : L2.St} {R : It → Hp → Prop} {m' : Mem} {o : Out (List D)} (h : AnsI X B al n σ R m' o) : Res X B al n σ m' o := fun c fs e => by subst e; exact h
section
variable {K : PySem.W.Frag} {B1 : Hp}
theorem yields_list {a : Addr} {vs : List V} {ds : List D} (h : SqL K B1 a vs) (r : Reps K B1 vs ds) : Yields K B1 (Itl K a) ds := fun i B H e1 e2 => by
  have hq : SqL K H a vs := Evl.ex_l (e1.trans e2) h
  refine ⟨fun d hd => ?_, fun hl => ⟨vs, hq, by rw [r.length]; exact hl⟩⟩
  obtain ⟨v, hv, rv⟩ := r.get hd
  refine ⟨⟨vs, v, hq, hv⟩, fun x H' y => ?_⟩
  obtain ⟨rfl, y⟩ := y
  have := y vs hq
  rw [hv] at this
  cases this
  exact ⟨B, Gr.refl e2, rv.mono e1⟩
theorem yields_tup {a : Addr} {vs : List V} {ds : List D} (h : SqT K B1 a vs) (r : Reps K B1 vs ds) : Yields K B1 (Itt K a) ds := fun i B H e1 e2 => by
  have hq : SqT K H a vs := Evl.ex_t (e1.trans e2) h
  refine ⟨fun d hd => ?_, fun hl => ⟨vs, hq, by rw [r.length]; exact hl⟩⟩
  obtain ⟨v, hv, rv⟩ := r.get hd
  refine ⟨⟨vs, v, hq, hv⟩, fun x H' y => ?_⟩
  obtain ⟨rfl, y⟩ := y
  have := y vs hq
  rw [hv] at this
  cases this
  exact ⟨B, Gr.refl e2, rv.mono e1⟩
/-- lo, lo + 1, .. -/
def rangeD (lo : Int) (n : Nat) : List D := (List.range n).map fun (i : Nat) => .int (lo + (i : Int))
theorem yields_range {lo : Int} {n : Nat} : Yields K B1 (Itr lo n) (rangeD lo n) := fun i B H e1 e2 => by
  refine ⟨fun d hd => ?_, fun hl => by show n ≤ i; simpa [rangeD] using hl⟩
  unfold rangeD at hd
  rw [List.getElem?_map] at hd
  by_cases hi : i < n
  · rw [List.getElem?_range hi] at hd
    cases hd
    refine ⟨hi, fun x H' y => ?_⟩
    obtain ⟨rfl, rfl⟩ := y
    exact ⟨B, Gr.refl e2, .int _⟩
  · rw [List.getElem?_eq_none (by simpa using hi)] at hd
    cases hd
/-- a text's signs -/
def signsD (x : Str) : List D := x.cps.toList.map fun c => .str ⟨#[c]⟩
theorem yields_str {x : Str} : Yields K B1 (Its x) (signsD x) := fun i B H e1 e2 => by
  refine ⟨fun d hd => ?_, fun hl => by show x.cps.size ≤ i; simpa [signsD] using hl⟩
  unfold signsD at hd
  rw [List.getElem?_map] at hd
  cases q : x.cps.toList[i]? with
  | none => rw [q] at hd; cases hd
  | some c =>
    rw [q] at hd
    cases hd
    have q2 : x.cps[i]? = some c := by simpa using q
    refine ⟨by obtain ⟨h, _⟩ := Array.getElem?_eq_some_iff.mp q2; exact h, fun y H' z => ?_⟩
    obtain ⟨rfl, c', h1, rfl⟩ := z
    rw [q2] at h1
    cases h1
    exact ⟨B, Gr.refl e2, .str _⟩
theorem repK_get : ∀ {kvs : List (Key × V)} {es : List (D × D)} {i : Nat} {p : D × D}, RepK K B1 kvs es → es[i]? = some p → ∃ k v, kvs[i]? = some (k, v) ∧ p.1 = kD k ∧ Rep K B1 v p.2
  | _, _, _, _, .nil, e => by simp at e
  | _, _, 0, _, .cons r _, e => by simp at e; subst e; exact ⟨_, _, rfl, rfl, r⟩
  | _, _, i + 1, _, .cons _ rs, e => by
    obtain ⟨k, v, h1, h2, h3⟩ := repK_get (i := i) rs (by simpa using e)
    exact ⟨k, v, by simpa using h1, h2, h3⟩
theorem RepK.length : ∀ {kvs : List (Key × V)} {es : List (D × D)}, RepK K B1 kvs es → kvs.length = es.length
  | _, _, .nil => rfl
  | _, _, .cons _ rs => congrArg (· + 1) (RepK.length rs)
theorem rep_kD {B : Hp} (k : Key) : Rep K B (kV k) (kD k) := by
  cases k with
  | inl i => exact .int i
  | inr x => exact .str x
theorem yields_keys {d : Addr} {o : Obj} {kvs : List (Key × V)} {es : List (D × D)} (h : B1 d = some (.frz o (.dK kvs))) (r : RepK K B1 kvs es) : Yields K B1 (Itk d o kvs) (es.map (·.1)) := fun i B H e1 e2 => by
  have hq := e2 _ _ (e1 _ _ h)
  refine ⟨fun z hz => ?_, fun hl => ⟨hq, by rw [r.length]; simpa using hl⟩⟩
  rw [List.getElem?_map] at hz
  cases q : es[i]? with
  | none => rw [q] at hz; cases hz
  | some p =>
    rw [q] at hz
    cases hz
    obtain ⟨k, v, h1, h2, h3⟩ := repK_get r q
    refine ⟨⟨hq, (List.getElem?_eq_some_iff.mp h1).1⟩, fun x H' y => ?_⟩
    obtain ⟨rfl, k', v', h4, rfl⟩ := y
    rw [h1] at h4
    cases h4
    show ∃ B', Gr B B' _ _ ∧ Rep K B' (kV k) p.1
    rw [h2]
    exact ⟨B, Gr.refl e2, rep_kD k⟩
theorem yields_vals {d : Addr} {o : Obj} {kvs : List (Key × V)} {es : List (D × D)} (h : B1 d = some (.frz o (.dK kvs))) (r : RepK K B1 kvs es) : Yields K B1 (Itd d o kvs) (es.map (·.2)) := fun i B H e1 e2 => by
  have hq := e2 _ _ (e1 _ _ h)
  refine ⟨fun z hz => ?_, fun hl => ⟨hq, by rw [r.length]; simpa using hl⟩⟩
  rw [List.getElem?_map] at hz
  cases q : es[i]? with
  | none => rw [q] at hz; cases hz
  | some p =>
    rw [q] at hz
    cases hz
    obtain ⟨k, v, h1, h2, h3⟩ := repK_get r q
    refine ⟨⟨hq, (List.getElem?_eq_some_iff.mp h1).1⟩, fun x H' y => ?_⟩
    obtain ⟨rfl, k', h4⟩ := y
    rw [h1] at h4
    cases h4
    exact ⟨B, Gr.refl e2, h3.mono e1⟩
theorem yields_items {d : Addr} {o : Obj} {kvs : List (Key × V)} {es : List (D × D)} (h : B1 d = some (.frz o (.dK kvs))) (r : RepK K B1 kvs es) : Yields K B1 (Iti d o kvs) (es.map fun p => .tup [p.1, p.2]) := fun i B H e1 e2 => by
  have hq := e2 _ _ (e1 _ _ h)
  refine ⟨fun z hz => ?_, fun hl => ⟨hq, by rw [r.length]; simpa using hl⟩⟩
  rw [List.getElem?_map] at hz
  cases q : es[i]? with
  | none => rw [q] at hz; cases hz
  | some p =>
    rw [q] at hz
    cases hz
    obtain ⟨k, v, h1, h2, h3⟩ := repK_get r q
    refine ⟨⟨hq, (List.getElem?_eq_some_iff.mp h1).1⟩, fun x H' y => ?_⟩
    obtain ⟨T, k', v', h4, rfl, hT, rfl⟩ := y
    rw [h1] at h4
    cases h4
    have g := Gr.lay e2 (o := .tup [kV k, v]) hT
    refine ⟨_, g, .tup (.inl (.inl upd_same)) (.cons ?_ (.cons ((h3.mono e1).mono g.b) .nil))⟩
    rw [h2]
    exact rep_kD k
def enumD (ds : List D) : List D := (List.range ds.length).zipWith (fun (i : Nat) d => .tup [.int (i : Int), d]) ds
theorem enumD_get {ds : List D} {i : Nat} {z : D} (h : (enumD ds)[i]? = some z) : ∃ d, ds[i]? = some d ∧ z = .tup [.int (i : Int), d] := by
  unfold enumD at h
  rw [List.getElem?_zipWith] at h
  by_cases hi : i < ds.length
  · rw [List.getElem?_range hi, List.getElem?_eq_getElem hi] at h
    cases h
    exact ⟨_, List.getElem?_eq_getElem hi, rfl⟩
  · rw [List.getElem?_eq_none (l := List.range ds.length) (by simpa using hi)] at h
    cases h
theorem yields_enum {a : Addr} {vs : List V} {ds : List D} (h : SqL K B1 a vs) (r : Reps K B1 vs ds) : Yields K B1 (Ite K a) (enumD ds) := fun i B H e1 e2 => by
  have hq : SqL K H a vs := Evl.ex_l (e1.trans e2) h
  refine ⟨fun z hz => ?_, fun hl => ⟨vs, hq, by rw [r.length]; simpa [enumD] using hl⟩⟩
  obtain ⟨d, hd, rfl⟩ := enumD_get hz
  obtain ⟨v, hv, rv⟩ := r.get hd
  refine ⟨⟨vs, v, hq, hv⟩, fun x H' y => ?_⟩
  obtain ⟨T, x', rfl, hT, rfl, y⟩ := y
  have := y vs hq
  rw [hv] at this
  cases this
  have g := Gr.lay e2 (o := .tup [.int (i : Nat), v]) hT
  exact ⟨_, g, .tup (.inl (.inl upd_same)) (.cons (.int _) (.cons ((rv.mono e1).mono g.b) .nil))⟩
def zipD (ds es : List D) : List D := List.zipWith (fun a b => .tup [a, b]) ds es
theorem yields_zip {a b : Addr} {vs us : List V} {ds es : List D} (h : SqL K B1 a vs) (r : Reps K B1 vs ds) (h2 : SqL K B1 b us) (r2 : Reps K B1 us es) : Yields K B1 (Itz K a b) (zipD ds es) := fun i B H e1 e2 => by
  have hq : SqL K H a vs := Evl.ex_l (e1.trans e2) h
  have hq2 : SqL K H b us := Evl.ex_l (e1.trans e2) h2
  refine ⟨fun z hz => ?_, fun hl => ⟨vs, us, hq, hq2, by
    rw [r.length, r2.length]
    simp only [zipD, List.length_zipWith] at hl
    omega⟩⟩
  unfold zipD at hz
  rw [List.getElem?_zipWith] at hz
  cases q : ds[i]? with
  | none => rw [q] at hz; cases hz
  | some d =>
    cases q2 : es[i]? with
    | none => rw [q, q2] at hz; cases hz
    | some e =>
      rw [q, q2] at hz
      cases hz
      obtain ⟨v, hv, rv⟩ := r.get q
      obtain ⟨u, hu, ru⟩ := r2.get q2
      refine ⟨⟨vs, us, v, u, hq, hq2, hv, hu⟩, fun x H' y => ?_⟩
      obtain ⟨T, x', y', rfl, hT, rfl, y1, y2⟩ := y
      have z1 := y1 vs hq
      rw [hv] at z1
      cases z1
      have z2 := y2 us hq2
      rw [hu] at z2
      cases z2
      have g := Gr.lay e2 (o := .tup [v, u]) hT
      exact ⟨_, g, .tup (.inl (.inl upd_same)) (.cons ((rv.mono e1).mono g.b) (.cons ((ru.mono e1).mono g.b) .nil))⟩
end

/-! ### the sources -/
def itemsOf (w : W) (m : Mem) : Run (List D) := match w with
  | .dat (.lst ds) => ret ds m
  | .dat (.tup ds) => ret ds m
  | .dat (.str x) => ret (signsD x) m
  | _ => none
@[simp] theorem itemsOf_lst {ds : List D} {m : Mem} : itemsOf (.dat (.lst ds)) m = ret ds m := rfl
@[simp] theorem itemsOf_tup {ds : List D} {m : Mem} : itemsOf (.dat (.tup ds)) m = ret ds m := rfl
@[simp] theorem itemsOf_str {x : Str} {m : Mem} : itemsOf (.dat (.str x)) m = ret (signsD x) m := rfl
def iAny (me : EM) : IM := fun ρ m => bnd (me ρ m) itemsOf
theorem itemsOf_len {w : W} {m : Mem} : ∀ o m', itemsOf w m = some (o, m') → m.length ≤ m'.length := fun o m' q => by
  unfold itemsOf at q
  split at q <;> first | (cases q; exact Nat.le_refl _) | cases q
section
variable {X : Cx} {tg e : Expr} {me : EM}
theorem si_any (he : SE X e me) : SI X tg e (iAny me) := by
  refine ⟨fun ρ m o m' q => bnd_len q (he.len ρ m) fun w m1 q1 => itemsOf_len o m' q1, fun ρ m o m' q B al σ H R wd rs h pins s I => ?_⟩
  rcases bnd_cases q with ⟨w, m1, e1, q1⟩ | ⟨c, fs, e1, rfl⟩
  · unfold itemsOf at q1
    split at q1
    · next ds =>
      cases q1
      refine (pi_list pe_w).run pins s σ H R I (he.run _ _ _ _ e1 B al σ H _ wd rs fun B1 al1 v1 H1 ex1 g1 wd1 r1 => ?_)
      cases r1 with
      | lst hq rr => exact ⟨_, rfl, ⟨_, Evl.ex_l wd1.ext hq⟩, h B1 al1 _ H1 ex1 g1 wd1 (yields_list hq rr)⟩
    · next ds =>
      cases q1
      refine (pi_tup pe_w).run pins s σ H R I (he.run _ _ _ _ e1 B al σ H _ wd rs fun B1 al1 v1 H1 ex1 g1 wd1 r1 => ?_)
      cases r1 with
      | tup hq rr => exact ⟨_, rfl, ⟨_, Evl.ex_t wd1.ext hq⟩, h B1 al1 _ H1 ex1 g1 wd1 (yields_tup hq rr)⟩
    · next x =>
      cases q1
      refine (pi_str pe_w).run pins s σ H R I (he.run _ _ _ _ e1 B al σ H _ wd rs fun B1 al1 v1 H1 ex1 g1 wd1 r1 => ?_)
      cases r1 with
      | str _ => exact ⟨_, rfl, h B1 al1 _ H1 ex1 g1 wd1 yields_str⟩
    · cases q1
  · exact (pi_list pe_w).run pins s σ H R I (he.run _ _ _ _ e1 B al σ H _ wd rs h)
/-- range(n) -/
def iRange1 (me : EM) : IM := fun ρ m => bnd (me ρ m) fun w m1 => match w with
  | .dat (.int j) => if j < 1000000 ∧ -1000000 < j then ret (rangeD 0 j.toNat) m1 else none
  | _ => none
theorem range1_cases {w : W} {m1 m' : Mem} {o : Out (List D)} (q : (match w with
  | .dat (.int j) => if j < 1000000 ∧ -1000000 < j then (ret (rangeD 0 j.toNat) m1 : Run (List D)) else none
  | _ => none) = some (o, m')) : ∃ j : Int, w = .dat (.int j) ∧ (j < 1000000 ∧ -1000000 < j) ∧ o = .ok (rangeD 0 j.toNat) ∧ m' = m1 := by
  split at q
  · split at q
    · next h => cases q; exact ⟨_, rfl, h, rfl, rfl⟩
    · cases q
  · cases q
theorem si_range1 {p pos : Pos} (hg : Gl X "range") (hm : X.mg "range" = none) (he : SE X e me) (hs : noStar e = true := by rfl) : SI X tg (.Call (.Name "range" p) [e] [] pos) (iRange1 me) := by
  refine ⟨fun ρ m o m' q => bnd_len q (he.len ρ m) fun w m1 q1 => by
    obtain ⟨_, _, _, _, rfl⟩ := range1_cases q1
    exact Nat.le_refl _, fun ρ m o m' q B al σ H R wd rs h pins s I => (pi_range1 hg hm (pa_cons pe_w pa_nil (starEach_cons hs)) (starEach_cons hs)).run pins s σ H R I ?_⟩
  refine he.seq q wd rs h.res fun w m1 q1 l1 B1 al1 v1 H1 e1 g1 wd1 r1 => ?_
  obtain ⟨j, rfl, hj, rfl, rfl⟩ := range1_cases q1
  cases (r1 : Rep X.K B1 v1 (.int j))
  exact ⟨j, rfl, by omega, by omega, h B1 al1 _ H1 e1 g1 wd1 yields_range⟩
/-- range(a, b) -/
def iRange2 (ma mb : EM) : IM := fun ρ m => bnd (ma ρ m) fun w m1 => bnd (mb ρ m1) fun u m2 => match w, u with
  | .dat (.int i), .dat (.int j) => if (i < 1000000 ∧ -1000000 < i) ∧ (j < 1000000 ∧ -1000000 < j) then ret (rangeD i (j - i).toNat) m2 else none
  | _, _ => none
theorem range2_cases {w u : W} {m1 m' : Mem} {o : Out (List D)} (q : (match w, u with
  | .dat (.int i), .dat (.int j) => if (i < 1000000 ∧ -1000000 < i) ∧ (j < 1000000 ∧ -1000000 < j) then (ret (rangeD i (j - i).toNat) m1 : Run (List D)) else none
  | _, _ => none) = some (o, m')) : ∃ i j : Int, w = .dat (.int i) ∧ u = .dat (.int j) ∧ ((i < 1000000 ∧ -1000000 < i) ∧ (j < 1000000 ∧ -1000000 < j)) ∧ o = .ok (rangeD i (j - i).toNat) ∧ m' = m1 := by
  split at q
  · split at q
    · next h => cases q; exact ⟨_, _, rfl, rfl, h, rfl, rfl⟩
    · cases q
  · cases q
theorem si_range2 {e2 : Expr} {mb : EM} {p pos : Pos} (hg : Gl X "range") (hm : X.mg "range" = none) (he : SE X e me) (hb : SE X e2 mb) (hs : noStar e = true := by rfl) (hs2 : noStar e2 = true := by rfl) : SI X tg (.Call (.Name "range" p) [e, e2] [] pos) (iRange2 me mb) := by
  refine ⟨fun ρ m o m' q => bnd_len q (he.len ρ m) fun w m1 q1 => bnd_len q1 (hb.len ρ m1) fun u m2 q2 => by
    obtain ⟨_, _, _, _, _, _, rfl⟩ := range2_cases q2
    exact Nat.le_refl _, fun ρ m o m' q B al σ H R wd rs h pins s I => (pi_range2 hg hm (pa_cons pe_w (pa_cons pe_w pa_nil (starEach_cons hs2)) (starEach_cons hs)) (by rw [starEach_cons hs, starEach_cons hs2]; rfl) (starEach_cons hs2)).run pins s σ H R I ?_⟩
  refine he.seq q wd rs h.res fun w m1 q1 l1 B1 al1 v1 H1 e1 g1 wd1 r1 => ?_
  refine hb.seq q1 wd1 (rs.mono e1 g1 l1) (fun c fs z => (h.res c fs z).mono e1 g1 l1) fun u m2 q2 l2 B2 al2 v2 H2 e2 g2 wd2 r2 => ?_
  obtain ⟨i, j, rfl, rfl, hj, rfl, rfl⟩ := range2_cases q2
  cases (r1 : Rep X.K B1 v1 (.int i))
  cases (r2 : Rep X.K B2 v2 (.int j))
  exact ⟨i, j, rfl, by omega, h B2 al2 _ H2 (e1.trans e2) (g1.trans g2 l1) wd2 yields_range⟩
/-- enumerate(list) -/
def iEnumM (me : EM) : IM := fun ρ m => bnd (me ρ m) fun w m1 => match w with
  | .dat (.lst ds) => ret (enumD ds) m1
  | _ => none
theorem enum_cases {w : W} {m1 m' : Mem} {o : Out (List D)} (q : (match w with
  | .dat (.lst ds) => (ret (enumD ds) m1 : Run (List D))
  | _ => none) = some (o, m')) : ∃ ds, w = .dat (.lst ds) ∧ o = .ok (enumD ds) ∧ m' = m1 := by
  split at q
  · cases q; exact ⟨_, rfl, rfl, rfl⟩
  · cases q
theorem si_enum {elts : List Expr} {kk : Nat} {p pos tpos : Pos} (hg : Gl X "enumerate") (hm : X.mg "enumerate" = none) (he : SE X e me) (hs : noStar e = true := by rfl) : SI X (.Tuple elts kk tpos) (.Call (.Name "enumerate" p) [e] [] pos) (iEnumM me) := by
  refine ⟨fun ρ m o m' q => bnd_len q (he.len ρ m) fun w m1 q1 => by
    obtain ⟨_, _, _, rfl⟩ := enum_cases q1
    exact Nat.le_refl _, fun ρ m o m' q B al σ H R wd rs h pins s I => (pi_enum hg hm (pa_cons pe_w pa_nil (starEach_cons hs)) (starEach_cons hs)).run pins s σ H R I ?_⟩
  refine he.seq q wd rs h.res fun w m1 q1 l1 B1 al1 v1 H1 e1 g1 wd1 r1 => ?_
  obtain ⟨ds, rfl, rfl, rfl⟩ := enum_cases q1
  cases (r1 : Rep X.K B1 v1 (.lst ds)) with
  | lst hq rr => exact ⟨_, _, rfl, Evl.ex_l wd1.ext hq, h B1 al1 _ H1 e1 g1 wd1 (yields_enum hq rr)⟩
/-- zip(list, list) -/
def iZipM (ma mb : EM) : IM := fun ρ m => bnd (ma ρ m) fun w m1 => bnd (mb ρ m1) fun u m2 => match w, u with
  | .dat (.lst ds), .dat (.lst es) => ret (zipD ds es) m2
  | _, _ => none
theorem zip_cases {w u : W} {m1 m' : Mem} {o : Out (List D)} (q : (match w, u with
  | .dat (.lst ds), .dat (.lst es) => (ret (zipD ds es) m1 : Run (List D))
  | _, _ => none) = some (o, m')) : ∃ ds es, w = .dat (.lst ds) ∧ u = .dat (.lst es) ∧ o = .ok (zipD ds es) ∧ m' = m1 := by
  split at q
  · cases q; exact ⟨_, _, rfl, rfl, rfl, rfl⟩
  · cases q
theorem si_zip {e2 : Expr} {mb : EM} {elts : List Expr} {kk : Nat} {p pos tpos : Pos} (hg : Gl X "zip") (hm : X.mg "zip" = none) (he : SE X e me) (hb : SE X e2 mb) (hs : noStar e = true := by rfl) (hs2 : noStar e2 = true := by rfl) :
    SI X (.Tuple elts kk tpos) (.Call (.Name "zip" p) [e, e2] [] pos) (iZipM me mb) := by
  refine ⟨fun ρ m o m' q => bnd_len q (he.len ρ m) fun w m1 q1 => bnd_len q1 (hb.len ρ m1) fun u m2 q2 => by
    obtain ⟨_, _, _, _, _, rfl⟩ := zip_cases q2
    exact Nat.le_refl _, fun ρ m o m' q B al σ H R wd rs h pins s I => (pi_zip hg hm (pa_cons pe_w (pa_cons pe_w pa_nil (starEach_cons hs2)) (starEach_cons hs)) (starEach_cons hs) (star_any (es := [e2]) (by show (noStar e2 && true) = true; rw [hs2]; rfl))).run pins s σ H R I ?_⟩
  refine he.seq q wd rs h.res fun w m1 q1 l1 B1 al1 v1 H1 e1 g1 wd1 r1 => ?_
  refine hb.seq q1 wd1 (rs.mono e1 g1 l1) (fun c fs z => (h.res c fs z).mono e1 g1 l1) fun u m2 q2 l2 B2 al2 v2 H2 e2 g2 wd2 r2 => ?_
  obtain ⟨ds, es, rfl, rfl, rfl, rfl⟩ := zip_cases q2
  cases (r1.mono e2 g2 l2 : Rep X.K B2 v1 (.lst ds)) with
  | lst hq rr =>
    cases (r2 : Rep X.K B2 v2 (.lst es)) with
    | lst hq2 rr2 => exact ⟨_, _, _, _, rfl, Evl.ex_l wd2.ext hq, Evl.ex_l wd2.ext hq2, h B2 al2 _ H2 (e1.trans e2) (g1.trans g2 l1) wd2 (yields_zip hq rr hq2 rr2)⟩
end

/-! ### for -/
/-- the turns: each item to the target, then the body -/
def forL (mg : GM) (body : SM) : List D → Slots → Mem → SR
  | [], ρ, m => some (.nx ρ, m)
  | d :: r, ρ, m => match mg (.dat d) ρ m with
    | some (.nx ρ1, m1) => (match body ρ1 m1 with
      | some (.nx ρ2, m2) => forL mg body r ρ2 m2
      | some (.ct ρ2, m2) => forL mg body r ρ2 m2
      | some (.bk ρ2, m2) => some (.nx ρ2, m2)
      | some (.rt w, m2) => some (.rt w, m2)
      | some (.ex c fs ρ2, m2) => some (.ex c fs ρ2, m2)
      | none => none)
    | _ => none
def sFor (mi : IM) (mg : GM) (body : SM) : SM := fun ρ m => sbd (mi ρ m) ρ fun ds m1 => forL mg body ds ρ m1
section
variable {X : Cx} {tg : Expr} {mg : GM} {body : SM} {bs : List Stmt}
theorem forL_len (hg : SG X tg mg) (hb : SSs X bs body) : ∀ (ds : List D) (ρ : Slots) (m : Mem) (f : Fl) (m' : Mem), forL mg body ds ρ m = some (f, m') → m.length ≤ m'.length
  | [], ρ, m, f, m', q => by cases q; exact Nat.le_refl _
  | d :: r, ρ, m, f, m', q => by
    unfold forL at q
    split at q
    · next ρ1 m1 e1 =>
      have l1 := hg.len _ _ _ _ _ e1
      split at q
      · next ρ2 m2 e2 => exact Nat.le_trans l1 (Nat.le_trans (hb.len _ _ _ _ e2) (forL_len hg hb r _ _ _ _ q))
      · next ρ2 m2 e2 => exact Nat.le_trans l1 (Nat.le_trans (hb.len _ _ _ _ e2) (forL_len hg hb r _ _ _ _ q))
      · next ρ2 m2 e2 => cases q; exact Nat.le_trans l1 (hb.len _ _ _ _ e2)
      · next ρ2 m2 e2 => cases q; exact Nat.le_trans l1 (hb.len _ _ _ _ e2)
      · next ρ2 m2 e2 => cases q; exact Nat.le_trans l1 (hb.len _ _ _ _ e2)
      · cases q
    · cases q
/-- the word of the loop: from turn i on the rest is done as the mirror says -/
def ForW (X : Cx) (B0 : Hp) (al0 : Pl) (n0 : Nat) (mg : GM) (body : SM) (ds : List D) (D : Ends) (f : Fl) (m' : Mem) : Nat → Nat → L2.St → Hp → Prop := fun i k σ H =>
  k + i = ds.length ∧ ∃ B al m ρ, Ex B0 B ∧ Agr n0 al0 al ∧ n0 ≤ m.length ∧ Wd X.K B al m H ∧ RepS X.K B al m.length σ ρ ∧ forL mg body (ds.drop i) ρ m = some (f, m')
theorem ss_for {iter : Expr} {mi : IM} {pos : Pos} (hp : PassesOwn (model X.prog X.w) X.A X.env X.xe) (hc : X.calm = true) (hi : SI X tg iter mi) (hg : SG X tg mg) (hb : SSs X bs body) (hs : ∀ x, foldedSetIterable iter X.env x = pure x) :
    SS X (.For tg iter bs [] pos) (sFor mi mg body) := by
  refine ⟨fun ρ m f m' q => sbd_len q (hi.len ρ m) fun ds m1 q1 => forL_len hg hb ds ρ m1 f m' q1, fun ρ m f m' q B al σ H D wd rs h pins s I => (ps_for hp hc pi_w pg_w pss_w hs).run pins s σ H D I ?_⟩
  rcases sbd_cases q with ⟨ds, m1, e1, q1⟩ | ⟨c, fs, e1, rfl⟩
  · refine hi.run _ _ _ _ e1 B al σ H _ wd rs fun B1 al1 J H1 x1 g1 wd1 ys => ?_
    have l1 := hi.len _ _ _ _ e1
    refine ⟨ForW X B1 al1 m1.length mg body ds D f m', ⟨ds.length, by simp, B1, al1, m1, ρ, Ex.refl _, Agr.refl, Nat.le_refl _, wd1, rs.mono x1 g1 l1, q1⟩, ?_⟩
    rintro i k σ2 H2 ⟨hk, B2, al2, m2, ρ2, x2, g2, l2, wd2, rs2, q2⟩
    obtain ⟨yg, ye⟩ := ys i B2 H2 x2 wd2.ext
    cases hd : ds[i]? with
    | none =>
      have hl : ds.length ≤ i := List.getElem?_eq_none_iff.mp hd
      rw [List.drop_eq_nil_of_le hl] at q2
      cases q2
      exact .inl ⟨ye hl, h B2 al2 σ2 H2 (x1.trans x2) (g1.trans g2 l1) wd2 rs2⟩
    | some d =>
      have hi' : i < ds.length := (List.getElem?_eq_some_iff.mp hd).1
      have ed : ds.drop i = d :: ds.drop (i + 1) := by
        rw [List.drop_eq_getElem_cons hi']
        congr 1
        exact (List.getElem?_eq_some_iff.mp hd).2
      rw [ed] at q2
      obtain ⟨jg, jy⟩ := yg d hd
      refine .inr ⟨jg, fun σ' H' => ∃ k', k' < k ∧ ForW X B1 al1 m1.length mg body ds D f m' (i + 1) k' σ' H', fun σ' H' z => z, fun x H3 y => ?_⟩
      obtain ⟨B3, g3, r3⟩ := jy x H3 y
      have wd3 := wd2.grow g3
      unfold forL at q2
      split at q2
      · next ρ3 m3 e3 =>
        refine hg.run _ _ _ _ _ e3 B3 al2 σ2 H3 x _ wd3 (rs2.mono g3.b Agr.refl (Nat.le_refl _)) r3 fun B4 al4 σ4 H4 x4 g4 wd4 rs4 => ?_
        have l3 := hg.len _ _ _ _ _ e3
        have xx : Ex B1 B4 := (x2.trans g3.b).trans x4
        have gg : Agr m1.length al1 al4 := g2.trans g4 l2
        have ll : m1.length ≤ m3.length := Nat.le_trans l2 l3
        have next : ∀ {ρ5 : Slots} {m5 : Mem}, m3.length ≤ m5.length → forL mg body (ds.drop (i + 1)) ρ5 m5 = some (f, m') → AnsN X.K B4 al4 m3.length ρ5 m5 fun σ' H' => ∃ k', k' < k ∧ ForW X B1 al1 m1.length mg body ds D f m' (i + 1) k' σ' H' := fun {ρ5 m5} l5 q5 B5 al5 σ5 H5 x5 g5 wd5 rs5 =>
          ⟨ds.length - (i + 1), by omega, by omega, B5, al5, m5, ρ5, xx.trans x5, gg.trans g5 ll, Nat.le_trans ll l5, wd5, rs5, q5⟩
        split at q2
        · next ρ5 m5 e5 => exact hb.run _ _ _ _ e5 B4 al4 σ4 H4 _ wd4 rs4 (next (hb.len _ _ _ _ e5) q2)
        · next ρ5 m5 e5 => exact hb.run _ _ _ _ e5 B4 al4 σ4 H4 _ wd4 rs4 (next (hb.len _ _ _ _ e5) q2)
        · next ρ5 m5 e5 =>
          cases q2
          exact hb.run _ _ _ _ e5 B4 al4 σ4 H4 _ wd4 rs4 (AnsN.mono (x1.trans xx) (g1.trans gg l1) (Nat.le_trans l1 ll) h)
        · next w m5 e5 =>
          cases q2
          exact hb.run _ _ _ _ e5 B4 al4 σ4 H4 _ wd4 rs4 (AnsF.mono (D := D) (f := .rt w) (x1.trans xx) (g1.trans gg l1) (Nat.le_trans l1 ll) h)
        · next c fs ρ5 m5 e5 =>
          cases q2
          exact hb.run _ _ _ _ e5 B4 al4 σ4 H4 _ wd4 rs4 (SFlies.mono (x1.trans xx) (g1.trans gg l1) (Nat.le_trans l1 ll) h)
        · cases q2
      · cases q2
  · exact hi.run _ _ _ _ e1 B al σ H _ wd rs (SFlies.at h rs (hi.len _ _ _ _ e1))
end

/-! ### while -/
def whileL (mt : TM) (body : SM) : Nat → Slots → Mem → SR
  | 0, _, _ => none
  | k + 1, ρ, m => sbd (mt ρ m) ρ fun b m1 => match b with
    | false => some (.nx ρ, m1)
    | true => (match body ρ m1 with
      | some (.nx ρ2, m2) => whileL mt body k ρ2 m2
      | some (.ct ρ2, m2) => whileL mt body k ρ2 m2
      | some (.bk ρ2, m2) => some (.nx ρ2, m2)
      | some (.rt w, m2) => some (.rt w, m2)
      | some (.ex c fs ρ2, m2) => some (.ex c fs ρ2, m2)
      | none => none)
section
variable {X : Cx} {mt : TM} {body : SM} {c : Expr} {bs : List Stmt}
theorem whileL_len (ht : ST X c mt) (hb : SSs X bs body) : ∀ (k : Nat) (ρ : Slots) (m : Mem) (f : Fl) (m' : Mem), whileL mt body k ρ m = some (f, m') → m.length ≤ m'.length
  | 0, ρ, m, f, m', q => by cases q
  | k + 1, ρ, m, f, m', q => by
    unfold whileL at q
    refine sbd_len q (ht.len ρ m) fun b m1 q1 => ?_
    cases b with
    | false => cases q1; exact Nat.le_refl _
    | true =>
      dsimp only at q1
      split at q1
      · next ρ2 m2 e2 => exact Nat.le_trans (hb.len _ _ _ _ e2) (whileL_len ht hb k _ _ _ _ q1)
      · next ρ2 m2 e2 => exact Nat.le_trans (hb.len _ _ _ _ e2) (whileL_len ht hb k _ _ _ _ q1)
      · next ρ2 m2 e2 => cases q1; exact hb.len _ _ _ _ e2
      · next ρ2 m2 e2 => cases q1; exact hb.len _ _ _ _ e2
      · next ρ2 m2 e2 => cases q1; exact hb.len _ _ _ _ e2
      · cases q1
def WhileW (X : Cx) (B0 : Hp) (al0 : Pl) (n0 : Nat) (mt : TM) (body : SM) (f : Fl) (m' : Mem) : Nat → L2.St → Hp → Prop := fun k σ H =>
  ∃ B al m ρ, Ex B0 B ∧ Agr n0 al0 al ∧ n0 ≤ m.length ∧ Wd X.K B al m H ∧ RepS X.K B al m.length σ ρ ∧ whileL mt body k ρ m = some (f, m')
theorem ss_while (fuel : Nat) {pos : Pos} (hp : PassesOwn (model X.prog X.w) X.A X.env X.xe) (ht : ST X c mt) (hb : SSs X bs body) : SS X (.While c bs [] pos) (whileL mt body fuel) := by
  refine ⟨fun ρ m f m' q => whileL_len ht hb fuel ρ m f m' q, fun ρ m f m' q B al σ H D wd rs h pins s I => (ps_while hp pt_w pss_w).run pins s σ H D I ?_⟩
  refine ⟨WhileW X B al m.length mt body f m', ⟨fuel, B, al, m, ρ, Ex.refl _, Agr.refl, Nat.le_refl _, wd, rs, q⟩, ?_⟩
  rintro k σ2 H2 ⟨B2, al2, m2, ρ2, x2, g2, l2, wd2, rs2, q2⟩
  cases k with
  | zero => cases q2
  | succ k =>
    unfold whileL at q2
    refine ht.ssq (D := D) q2 wd2 rs2 (AnsF.mono x2 g2 l2 h) fun b m3 q3 l3 B3 al3 H3 x3 g3 wd3 => ?_
    cases b with
    | false =>
      rw [if_neg Bool.false_ne_true]
      cases q3
      exact h B3 al3 σ2 H3 (x2.trans x3) (g2.trans g3 l2) wd3 (rs2.mono x3 g3 l3)
    | true =>
      rw [if_pos rfl]
      dsimp only at q3
      refine ⟨fun σ' H' => ∃ k', k' < k + 1 ∧ WhileW X B al m.length mt body f m' k' σ' H', fun _ _ z => z, ?_⟩
      have rs3 := rs2.mono x3 g3 l3
      have xx := x2.trans x3
      have gg := g2.trans g3 l2
      have ll := Nat.le_trans l2 l3
      have next : ∀ {ρ5 : Slots} {m5 : Mem}, m3.length ≤ m5.length → whileL mt body k ρ5 m5 = some (f, m') → AnsN X.K B3 al3 m3.length ρ5 m5 fun σ' H' => ∃ k', k' < k + 1 ∧ WhileW X B al m.length mt body f m' k' σ' H' := fun {ρ5 m5} l5 q5 B5 al5 σ5 H5 x5 g5 wd5 rs5 =>
        ⟨k, Nat.lt_succ_self k, B5, al5, m5, ρ5, xx.trans x5, gg.trans g5 ll, Nat.le_trans ll l5, wd5, rs5, q5⟩
      split at q3
      · next ρ5 m5 e5 => exact hb.run _ _ _ _ e5 B3 al3 σ2 H3 _ wd3 rs3 (next (hb.len _ _ _ _ e5) q3)
      · next ρ5 m5 e5 => exact hb.run _ _ _ _ e5 B3 al3 σ2 H3 _ wd3 rs3 (next (hb.len _ _ _ _ e5) q3)
      · next ρ5 m5 e5 =>
        cases q3
        exact hb.run _ _ _ _ e5 B3 al3 σ2 H3 _ wd3 rs3 (AnsN.mono xx gg ll h)
      · next w m5 e5 =>
        cases q3
        exact hb.run _ _ _ _ e5 B3 al3 σ2 H3 _ wd3 rs3 (AnsF.mono (D := D) (f := .rt w) xx gg ll h)
      · next c fs ρ5 m5 e5 =>
        cases q3
        exact hb.run _ _ _ _ e5 B3 al3 σ2 H3 _ wd3 rs3 (SFlies.mono xx gg ll h)
      · cases q3
end
end Dm
/-! Dm, part 6: comprehensions; the rule for a def. -/
namespace Dm
open PySem PySem.Spec PyProof.Rows L2
open Evl (Ex)

/-! ### list comprehensions, one clause -/
/-- the own names forgotten -/
def wipeS (ρ : Slots) : List Nat → Slots
  | [] => ρ
  | v :: vs => (wipeS ρ vs).set v none
theorem repS_wipes {K : PySem.W.Frag} {B : Hp} {al : Pl} {n : Nat} {σ : L2.St} {ρ : Slots} (h : RepS K B al n σ ρ) : ∀ vs : List Nat, RepS K B al n (wipe σ vs) (wipeS ρ vs)
  | [] => h
  | v :: vs => RepS.wipe (repS_wipes h vs) v none
/-- how a comprehension's target takes an item: a name, or a tuple of names -/
inductive CT where
  | one (i : Nat) | tup (is : List Nat)
def CT.ok : CT → List Nat → Bool
  | .one i, vs => vs.contains i
  | .tup is, vs => is.all vs.contains
def setAll : Slots → List Nat → List D → Option Slots
  | ρ, [], [] => some ρ
  | ρ, i :: is, d :: ds => setAll (ρ.set i (some (.dat d))) is ds
  | _, _, _ => none
def CT.take (t : CT) (d : D) (ρ : Slots) : Option Slots := match t with
  | .one i => some (ρ.set i (some (.dat d)))
  | .tup is => (match d with
    | .tup ds => setAll ρ is ds
    | _ => none)
def CT.g (K : PySem.W.Frag) : CT → TG
  | .one i => gName i
  | .tup is => gTup K is.length (is.foldr (fun i t => gCons (gName i) t) gNil)
/-- the target's reading, in each context with these names -/
def CTok (X : Cx) (tg : Expr) (t : CT) : Prop := PG X tg (t.g X.K)
/-- the turns of a comprehension: what is made so far, in turn; the memory is cut behind each -/
def lcL (t : CT) (tt : TM) (te : EM) : List D → Slots → Mem → List D → Option (List D × Mem)
  | [], _, m, acc => some (acc, m)
  | d :: r, ρ, m, acc => match t.take d ρ with
    | none => none
    | some ρ1 => (match tt ρ1 m with
      | some (.ok false, m1) => lcL t tt te r ρ (m1.take m.length) acc
      | some (.ok true, m1) => (match te ρ1 m1 with
        | some (.ok (.dat y), m2) => lcL t tt te r ρ (m2.take m.length) (acc ++ [y])
        | _ => none)
      | _ => none)
def mLc (mi : IM) (t : CT) (tt : TM) (te : EM) (vs : List Nat) : EM := fun ρ m => bnd (mi ρ m) fun ds m1 => if ds.length < LIM then (match lcL t tt te ds (wipeS ρ vs) m1 [] with
  | some (ys, m2) => rd (.lst ys) m2
  | none => none) else none
def tYesM : TM := fun _ m => ret true m
theorem wipe_same {σ : L2.St} {vs : List Nat} {i : Nat} {x : Option V} (hi : vs.contains i = true) : wipe ((wipe σ vs).set i x) vs = wipe σ vs := by
  have h : i ∈ vs := by simpa using hi
  apply List.ext_getElem?
  intro j
  have key : ∀ (τ : L2.St) (ws : List Nat), (wipe τ ws)[j]? = if j ∈ ws ∧ j < τ.length then some none else τ[j]? := by
    intro τ ws
    induction ws with
    | nil => simp [wipe]
    | cons w ws ih =>
      unfold wipe
      by_cases e : w = j
      · subst e
        by_cases hl : w < τ.length
        · rw [List.getElem?_set_self (by rw [wipe_length]; exact hl), if_pos ⟨List.mem_cons_self, hl⟩]
        · rw [List.getElem?_eq_none (by rw [List.length_set, wipe_length]; omega), if_neg (fun z => hl z.2), List.getElem?_eq_none (by omega)]
      · rw [List.getElem?_set_ne e, ih]
        by_cases hm : j ∈ ws ∧ j < τ.length
        · rw [if_pos hm, if_pos ⟨List.mem_cons_of_mem _ hm.1, hm.2⟩]
        · rw [if_neg hm, if_neg]
          rintro ⟨z1, z2⟩
          rcases List.mem_cons.mp z1 with z | z
          · exact e z.symm
          · exact hm ⟨z, z2⟩
  rw [key, key, List.length_set, wipe_length]
  by_cases hj : j ∈ vs ∧ j < σ.length
  · rw [if_pos hj, if_pos hj]
  · rw [if_neg hj, if_neg hj]
    by_cases e : i = j
    · subst e
      have hl : ¬ i < σ.length := fun z => hj ⟨h, z⟩
      rw [List.getElem?_eq_none (by rw [List.length_set, wipe_length]; omega), List.getElem?_eq_none (by omega)]
    · rw [List.getElem?_set_ne e, key, if_neg hj]
theorem wipe_sets {σ : L2.St} {vs : List Nat} : ∀ {is : List Nat} {xs : List V} {τ : L2.St}, is.all vs.contains = true → is.length = xs.length → wipe τ vs = wipe σ vs → wipe ((is.zip xs).foldl (fun s p => s.set p.1 (some p.2)) τ) vs = wipe σ vs
  | [], _, _, _, _, h => h
  | i :: is, [], _, _, hl, _ => by simp at hl
  | i :: is, x :: xs, τ, ha, hl, h => by
    have ha' : vs.contains i = true ∧ is.all vs.contains = true := by simpa using ha
    refine wipe_sets (is := is) (xs := xs) (τ := τ.set i (some x)) ha'.2 (by simpa using hl) ?_
    rw [← h]
    have hi : i ∈ vs := by simpa using ha'.1
    apply List.ext_getElem?
    intro j
    have key : ∀ (τ : L2.St) (ws : List Nat), (wipe τ ws)[j]? = if j ∈ ws ∧ j < τ.length then some none else τ[j]? := by
      intro τ ws
      induction ws with
      | nil => simp [wipe]
      | cons w ws ih =>
        unfold wipe
        by_cases e : w = j
        · subst e
          by_cases hl : w < τ.length
          · rw [List.getElem?_set_self (by rw [wipe_length]; exact hl), if_pos ⟨List.mem_cons_self, hl⟩]
          · rw [List.getElem?_eq_none (by rw [List.length_set, wipe_length]; omega), if_neg (fun z => hl z.2), List.getElem?_eq_none (by omega)]
        · rw [List.getElem?_set_ne e, ih]
          by_cases hm : j ∈ ws ∧ j < τ.length
          · rw [if_pos hm, if_pos ⟨List.mem_cons_of_mem _ hm.1, hm.2⟩]
          · rw [if_neg hm, if_neg]
            rintro ⟨z1, z2⟩
            rcases List.mem_cons.mp z1 with z | z
            · exact e z.symm
            · exact hm ⟨z, z2⟩
    rw [key, key, List.length_set]
    by_cases hj : j ∈ vs ∧ j < τ.length
    · rw [if_pos hj, if_pos hj]
    · rw [if_neg hj, if_neg hj]
      by_cases e : i = j
      · subst e
        have hl : ¬ i < τ.length := fun z => hj ⟨hi, z⟩
        rw [List.getElem?_eq_none (by rw [List.length_set]; omega), List.getElem?_eq_none (by omega)]
      · rw [List.getElem?_set_ne e]
/-- a tuple's names are set one by one -/
theorem gTups_run {K : PySem.W.Frag} : ∀ {is : List Nat} {xs : List V} {σ : L2.St} {H : Hp} {Q : L2.St → Hp → Prop}, is.length = xs.length → Q ((is.zip xs).foldl (fun s p => s.set p.1 (some p.2)) σ) H → (is.foldr (fun i t => gCons (gName i) t) gNil) xs σ H Q
  | [], [], _, _, _, _, q => ⟨rfl, q⟩
  | i :: is, x :: xs, σ, H, Q, hl, q => ⟨x, xs, rfl, gTups_run (K := K) (is := is) (xs := xs) (by simpa using hl) q⟩
  | [], _ :: _, _, _, _, hl, _ => by simp at hl
  | _ :: _, [], _, _, _, hl, _ => by simp at hl
theorem setAll_rep {K : PySem.W.Frag} {B : Hp} {al : Pl} {n : Nat} : ∀ {is : List Nat} {vs : List V} {ds : List D} {σ : L2.St} {ρ ρ1 : Slots}, setAll ρ is ds = some ρ1 → Reps K B vs ds → RepS K B al n σ ρ → is.length = vs.length ∧ RepS K B al n ((is.zip vs).foldl (fun s p => s.set p.1 (some p.2)) σ) ρ1
  | [], _, [], _, _, _, e, .nil, rs => by cases e; exact ⟨rfl, rs⟩
  | [], _, _ :: _, _, _, _, e, _, _ => by cases e
  | _ :: _, _, [], _, _, _, e, _, _ => by cases e
  | i :: is, _, d :: ds, σ, ρ, ρ1, e, .cons r rr, rs => by
    obtain ⟨h1, h2⟩ := setAll_rep (is := is) (ds := ds) (ρ := ρ.set i (some (.dat d))) e rr (rs.set (w := .dat d) r)
    exact ⟨congrArg (· + 1) h1, h2⟩
theorem ctTup {is : List Nat} {d : D} {ρ ρ1 : Slots} (e : (CT.tup is).take d ρ = some ρ1) : ∃ ds, d = .tup ds ∧ setAll ρ is ds = some ρ1 := by
  cases d with
  | tup ds => exact ⟨ds, rfl, e⟩
  | _ => cases e
/-- an object that nobody here touches -/
def Pl.hide (al : Pl) (p : Addr) (o : HO) : Pl := ⟨al.at_, fun a => if a = p then some o else al.fr a⟩
theorem hide_here {al : Pl} {p : Addr} {o : HO} : (al.hide p o).fr p = some o := by show (if p = p then some o else al.fr p) = _; exact if_pos rfl
theorem hide_ne {al : Pl} {p a : Addr} {o : HO} (h : a ≠ p) : (al.hide p o).fr a = al.fr a := by show (if a = p then some o else al.fr a) = _; exact if_neg h
theorem Wd.hide {K : PySem.W.Frag} {B H : Hp} {al : Pl} {m : Mem} {p : Addr} {o : HO} (wd : Wd K B al m H) (hp : H p = some o) (hb : B p = none) (nc : ∀ j c, m[j]? = some c → c.isDead = false → al j ≠ p) : Wd K B (al.hide p o) m H := by
  refine ⟨wd.ext, wd.cell, wd.inj, fun a u e => ?_, fun a ha => ?_, fun k c e hd => ?_⟩
  · by_cases z : a = p
    · subst z; rw [hide_here] at e; cases e; exact hp
    · rw [hide_ne z] at e; exact wd.fx a u e
  · by_cases z : a = p
    · rw [z]; exact hb
    · rw [hide_ne z] at ha; exact wd.fb a ha
  · show (al.hide p o).fr (al k) = none
    rw [hide_ne (nc k c e hd)]; exact wd.fc k c e hd
/-- its owner writes it, and it is as before for the others -/
theorem Wd.unhide {K : PySem.W.Frag} {B H : Hp} {al al' : Pl} {m : Mem} {p : Addr} {o o' : HO} (wd : Wd K B al' m H) (hf : al'.fr = (al.hide p o).fr) (hn : al.fr p = none) : Wd K B ⟨al'.at_, al.fr⟩ m (upd H p o') ∧ B p = none ∧ H p = some o ∧ ∀ j c, m[j]? = some c → c.isDead = false → al' j ≠ p := by
  have h1 : al'.fr p = some o := by rw [hf]; exact hide_here
  have hb : B p = none := wd.fb p (by rw [h1]; simp)
  have nc : ∀ j c, m[j]? = some c → c.isDead = false → al' j ≠ p := fun j c e hd z => by
    have := wd.fc j c e hd
    rw [z, h1] at this; cases this
  have old : ∀ a u, al.fr a = some u → a ≠ p ∧ al'.fr a = some u := fun a u e => by
    have z : a ≠ p := fun z => by rw [z, hn] at e; cases e
    exact ⟨z, by rw [hf, hide_ne z]; exact e⟩
  refine ⟨⟨fun a u e => ?_, fun k c e hd => ?_, wd.inj, fun a u e => ?_, fun a ha => ?_, fun k c e hd => ?_⟩, hb, wd.fx p o h1, nc⟩
  · have z : a ≠ p := fun z => by rw [z, hb] at e; cases e
    rw [upd_ne z]; exact wd.ext a u e
  · obtain ⟨c1, c2⟩ := wd.cell k c e hd
    have z := nc k c e hd
    refine ⟨c1, ?_⟩
    show RepC K B (upd H p o') (al' k) c
    cases c with
    | dead => cases hd
    | lst ds => obtain ⟨vs, z1, z2⟩ := c2; exact ⟨vs, by rw [upd_ne z]; exact z1, z2⟩
    | dct es =>
      rcases c2 with ⟨kvs, z1, z2⟩ | ⟨kvs, z1, z2⟩
      · exact .inl ⟨kvs, by rw [upd_ne z]; exact z1, z2⟩
      · exact .inr ⟨kvs, by rw [upd_ne z]; exact z1, z2⟩
    | obj c fs => obtain ⟨dx, gs, z1, z2⟩ := c2; exact ⟨dx, gs, by rw [upd_ne z]; exact z1, z2⟩
  · obtain ⟨z, e2⟩ := old a u e
    rw [upd_ne z]; exact wd.fx a u e2
  · cases q : al.fr a with
    | none => exact absurd q ha
    | some u => exact wd.fb a (by rw [(old a u q).2]; simp)
  · cases q : al.fr (al' k) with
    | none => rfl
    | some u =>
      have := wd.fc k c e hd
      rw [(old _ u q).2] at this; cases this
/-- what was owned is frozen -/
theorem Wd.freeze {K : PySem.W.Frag} {B H : Hp} {al : Pl} {m : Mem} {p : Addr} {o : HO} (wd : Wd K B al m H) (hp : H p = some o) (hb : B p = none) (hf : al.fr p = none) (nc : ∀ j c, m[j]? = some c → c.isDead = false → al j ≠ p) : Wd K (upd B p o) al m H ∧ Ex B (upd B p o) := by
  have ex : Ex B (upd B p o) := Ex.new hb
  refine ⟨⟨fun a u z => ?_, fun j c e hd => ?_, wd.inj, wd.fx, fun a ha => ?_, wd.fc⟩, ex⟩
  · by_cases w : a = p
    · subst w; rw [upd_same] at z; cases z; exact hp
    · rw [upd_ne w] at z; exact wd.ext a u z
  · obtain ⟨h1, h2⟩ := wd.cell j c e hd
    refine ⟨by rw [upd_ne (nc j c e hd)]; exact h1, ?_⟩
    cases c with
    | dead => cases hd
    | lst ds => obtain ⟨vs, z1, z2⟩ := h2; exact ⟨vs, z1, z2.mono ex⟩
    | dct es =>
      rcases h2 with ⟨kvs, z1, z2⟩ | ⟨kvs, z1, z2⟩
      · exact .inl ⟨kvs, z1, z2.mono ex⟩
      · exact .inr ⟨kvs, z1, z2.mono ex⟩
    | obj c fs => obtain ⟨dx, gs, z1, z2⟩ := h2; exact ⟨dx, gs, z1, z2.mono ex⟩
  · have z : a ≠ p := fun z => by rw [z, hf] at ha; exact ha rfl
    rw [upd_ne z]; exact wd.fb a ha
/-- the target takes the item -/
theorem ct_run {K : PySem.W.Frag} {B H : Hp} {al : Pl} {n : Nat} {t : CT} {vs : List Nat} {d : D} {σ : L2.St} {ρ ρ1 : Slots} {x : V} {Q : L2.St → Hp → Prop} (ho : t.ok vs = true) (e : t.take d ρ = some ρ1) (eb : Ex B H) (r : Rep K B x d) (rs : RepS K B al n (wipe σ vs) ρ)
    (q : ∀ σ2, RepS K B al n σ2 ρ1 → wipe σ2 vs = wipe σ vs → Q σ2 H) : t.g K x (wipe σ vs) H Q := by
  cases t with
  | one i =>
    cases e
    exact q _ (rs.set (w := .dat d) r) (wipe_same ho)
  | tup is =>
    obtain ⟨ds, rfl, e'⟩ := ctTup e
    · cases r with
      | tup hq rr =>
        obtain ⟨hl, r2⟩ := setAll_rep e' rr rs
        refine ⟨_, _, rfl, Evl.ex_t eb hq, hl.symm, gTups_run (K := K) hl (q _ r2 (wipe_sets ho hl ?_))⟩
        have key : ∀ (σ : L2.St) (ws us : List Nat), (∀ w ∈ ws, w ∈ us) → wipe (wipe σ us) ws = wipe σ us := by
          intro σ ws us
          induction ws with
          | nil => intro _; rfl
          | cons w ws ih =>
            intro hm
            show (wipe (wipe σ us) ws).set w none = _
            rw [ih fun z hz => hm z (List.mem_cons_of_mem _ hz)]
            have hw := hm w List.mem_cons_self
            clear ih hm
            induction us with
            | nil => cases hw
            | cons u us ih =>
              show ((wipe σ us).set u none).set w none = (wipe σ us).set u none
              by_cases e : u = w
              · subst e; rw [List.set_set]
              · rcases List.mem_cons.mp hw with z | z
                · exact absurd z.symm e
                · rw [List.set_comm _ _ e, ih z]
        exact key σ vs vs fun _ h => h
section
variable {X : Cx} {tg iter elt : Expr} {mi : IM} {t : CT} {tt : TM} {te : EM} {ifs : List Expr}
/-- a clause's tests -/
def wTs (X : Cx) (ifs : List Expr) : TT := fun σ H Q => ∀ (pins : List (Addr × Obj)) (s : Shared), Inv X pins σ H s →
  wpAny (model X.prog X.w) X.A (forIn ifs true fun c r => if r = true then do let ok ← isTrue c X.env (eval c X.env); pure (ForInStep.yield ok) else pure (ForInStep.yield r)) (TP X pins σ Q) X.xe s
structure STs (X : Cx) (ifs : List Expr) (mm : TM) : Prop where
  len : ∀ ρ m o m', mm ρ m = some (o, m') → m.length ≤ m'.length
  run : ∀ ρ m o m', mm ρ m = some (o, m') → ∀ B al σ H Q, Wd X.K B al m H → RepS X.K B al m.length σ ρ → AnsT X B al m.length σ Q m' o → wTs X ifs σ H Q
theorem sts_nil : STs X [] tYesM := ⟨fun ρ m o m' q => by cases q; exact Nat.le_refl _, fun ρ m o m' q B al σ H Q wd rs h pins s I => by
  cases q
  exact pts_nil.run pins s σ H Q I (h B al H (Ex.refl B) Agr.refl wd)⟩
theorem sts_one {c : Expr} {mm : TM} (h : ST X c mm) : STs X [c] mm := ⟨h.len, fun ρ m o m' q B al σ H Q wd rs ha pins s I => (pts_one pt_w).run pins s σ H Q I (h.run _ _ _ _ q B al σ H Q wd rs ha)⟩
theorem lcL_len (ht : ∀ ρ m o m', tt ρ m = some (o, m') → m.length ≤ m'.length) (he : ∀ ρ m o m', te ρ m = some (o, m') → m.length ≤ m'.length) : ∀ (ds : List D) (ρ : Slots) (m : Mem) (acc ys : List D) (m' : Mem), lcL t tt te ds ρ m acc = some (ys, m') → m'.length = m.length
  | [], ρ, m, acc, ys, m', q => by cases q; rfl
  | d :: r, ρ, m, acc, ys, m', q => by
    unfold lcL at q
    split at q
    · cases q
    · next ρ1 e =>
      split at q
      · next m1 e1 =>
        have l1 := ht _ _ _ _ e1
        rw [lcL_len ht he r _ _ _ _ _ q, List.length_take]; omega
      · next m1 e1 =>
        have l1 := ht _ _ _ _ e1
        split at q
        · next y m2 e2 =>
          have l2 := he _ _ _ _ e2
          rw [lcL_len ht he r _ _ _ _ _ q, List.length_take]; omega
        · cases q
      · cases q
theorem mLc_cases {vs : List Nat} {ds : List D} {ρ : Slots} {m1 m' : Mem} {o : Out W} (q : (if ds.length < LIM then (match lcL t tt te ds (wipeS ρ vs) m1 [] with
  | some (ys, m2) => rd (.lst ys) m2
  | none => none) else none) = some (o, m')) : ds.length < LIM ∧ ∃ ys, lcL t tt te ds (wipeS ρ vs) m1 [] = some (ys, m') ∧ o = .ok (.dat (.lst ys)) := by
  split at q
  · next hl =>
    split at q
    · next ys m2 e => cases q; exact ⟨hl, ys, e, rfl⟩
    · cases q
  · cases q
/-- the length of what is made so far -/
theorem lcL_acc : ∀ (ds : List D) (ρ : Slots) (m : Mem) (acc ys : List D) (m' : Mem), lcL t tt te ds ρ m acc = some (ys, m') → acc.length ≤ ys.length ∧ ys.length ≤ acc.length + ds.length
  | [], ρ, m, acc, ys, m', q => by cases q; exact ⟨Nat.le_refl _, Nat.le_refl _⟩
  | d :: r, ρ, m, acc, ys, m', q => by
    unfold lcL at q
    split at q
    · cases q
    · split at q
      · obtain ⟨h1, h2⟩ := lcL_acc r _ _ _ _ _ q
        exact ⟨h1, by rw [List.length_cons]; omega⟩
      · split at q
        · obtain ⟨h1, h2⟩ := lcL_acc r _ _ _ _ _ q
          rw [List.length_append, List.length_singleton] at h1 h2
          exact ⟨by omega, by rw [List.length_cons]; omega⟩
        · cases q
      · cases q
/-- the word: the list at Dl holds what is made so far, and the rest is made as the mirror says -/
def LcW (X : Cx) (B0 : Hp) (al0 : Pl) (n0 : Nat) (σ : L2.St) (t : CT) (tt : TM) (te : EM) (ds : List D) (ρ : Slots) (vs : List Nat) (Dl : Addr) (ys : List D) (m' : Mem) : Nat → Nat → Hp → Prop := fun i k H =>
  k + i = ds.length ∧ ∃ B al m acc us, Ex B0 B ∧ Agr n0 al0 al ∧ m.length = n0 ∧ Wd X.K B al m H ∧ B Dl = none ∧ (∀ j c, m[j]? = some c → c.isDead = false → al j ≠ Dl) ∧ H Dl = some (.lst us) ∧ Reps X.K B us acc ∧ acc.length ≤ i ∧ RepS X.K B al n0 (wipe σ vs) (wipeS ρ vs) ∧ lcL t tt te (ds.drop i) (wipeS ρ vs) m acc = some (ys, m')
/-- what a comprehension reads -/
theorem lc_run {vs : List Nat} (ho : t.ok vs = true) (hi : SI X tg iter mi) {ρ : Slots} {m m' : Mem} {o : Out W} (q : mLc mi t tt te vs ρ m = some (o, m')) {B : Hp} {al : Pl} {σ : L2.St} {H : Hp} {Q : VK} (wd : Wd X.K B al m H) (rs : RepS X.K B al m.length σ ρ) (h : AnsE X B al m.length σ Q m' o)
    {tu : TT} {tv : TE} (htu : ∀ (ρ1 : Slots) (m1 : Mem) (b : Bool) (m2 : Mem), tt ρ1 m1 = some (.ok b, m2) → ∀ B al σ H Q, Wd X.K B al m1 H → RepS X.K B al m1.length σ ρ1 → (∀ B' al' H', Ex B B' → Agr m1.length al al' → Wd X.K B' al' m2 H' → Q b H') → tu σ H Q)
    (htv : ∀ (ρ1 : Slots) (m1 : Mem) (w : W) (m2 : Mem), te ρ1 m1 = some (.ok w, m2) → ∀ B al σ H Q, Wd X.K B al m1 H → RepS X.K B al m1.length σ ρ1 → AnsW X.K B al m1.length w m2 Q → tv σ H Q)
    (ltt : ∀ ρ m o m', tt ρ m = some (o, m') → m.length ≤ m'.length) (lte : ∀ ρ m o m', te ρ m = some (o, m') → m.length ≤ m'.length) : tLc (wI X tg iter) (t.g X.K) tu tv vs σ H Q := by
  rcases bnd_cases q with ⟨ds, m1, e1, q1⟩ | ⟨c, fs, e1, rfl⟩
  · refine hi.run _ _ _ _ e1 B al σ H _ wd rs fun B1 al1 J H1 x1 g1 wd1 ys => ?_
    have l1 := hi.len _ _ _ _ e1
    obtain ⟨hlim, zs, qz, rfl⟩ := mLc_cases q1
    intro Dl hD
    have gl := Gr.by wd1.ext (o := .lst []) hD
    have wdl := wd1.grow gl
    have hB1 : B1 Dl = none := by
      cases z : B1 Dl with
      | none => rfl
      | some u => rw [wd1.ext _ u z] at hD; cases hD
    have hF1 : al1.fr Dl = none := by
      cases z : al1.fr Dl with
      | none => rfl
      | some u => rw [wd1.fx _ u z] at hD; cases hD
    refine ⟨LcW X B1 al1 m1.length σ t tt te ds ρ vs Dl zs m', ⟨ds.length, by simp, B1, al1, m1, [], [], Ex.refl _, Agr.refl, rfl, wdl, hB1, fun j c e hd => wd1.notNew hD e hd, upd_same, .nil, Nat.zero_le _, repS_wipes (rs.mono x1 g1 l1) vs, qz⟩, ?_⟩
    rintro i k H2 ⟨hk, B2, al2, m2, acc, us, x2, g2, l2, wd2, b2, nh2, hl2, ra, la, rs2, q2⟩
    have hF2 : al2.fr Dl = none := by rw [g2.fr]; exact hF1
    obtain ⟨yg, ye⟩ := ys i B2 H2 x2 wd2.ext
    cases hd : ds[i]? with
    | none =>
      have hl : ds.length ≤ i := List.getElem?_eq_none_iff.mp hd
      rw [List.drop_eq_nil_of_le hl] at q2
      cases q2
      refine .inl ⟨ye hl, ?_⟩
      obtain ⟨wd3, exB⟩ := wd2.freeze hl2 b2 hF2 nh2
      exact h _ al2 _ H2 ((x1.trans x2).trans exB) (g1.trans g2 l1) wd3 (.lst (.inl (.inl upd_same)) (ra.mono exB))
    | some d =>
      have hi' : i < ds.length := (List.getElem?_eq_some_iff.mp hd).1
      have ed : ds.drop i = d :: ds.drop (i + 1) := by
        rw [List.drop_eq_getElem_cons hi']
        congr 1
        exact (List.getElem?_eq_some_iff.mp hd).2
      rw [ed] at q2
      obtain ⟨jg, jy⟩ := yg d hd
      refine .inr ⟨jg, fun H' => ∃ k', k' < k ∧ LcW X B1 al1 m1.length σ t tt te ds ρ vs Dl zs m' (i + 1) k' H', fun H' z => z, fun x H3 y => ?_⟩
      obtain ⟨B3, g3, r3⟩ := jy x H3 y
      have wd3 := wd2.grow g3
      have hl3 : H3 Dl = some (.lst us) := g3.h _ _ hl2
      have b3 : B3 Dl = none := g3.new Dl (by rw [hl2]; simp) b2
      have rs3 := rs2.mono g3.b Agr.refl (Nat.le_refl _)
      have wdh := wd3.hide hl3 b3 nh2
      unfold lcL at q2
      split at q2
      · cases q2
      · next ρ1 eT =>
        refine ct_run ho eT wd3.ext r3 rs3 fun σ4 rs4 hw => ⟨hw, ?_⟩
        have rs4' : RepS X.K B3 (al2.hide Dl (.lst us)) m2.length σ4 ρ1 := by rw [l2]; exact rs4
        split at q2
        · next m4 e4 =>
          refine htu ρ1 m2 false m4 e4 B3 _ σ4 H3 _ wdh rs4' fun B4 al4 H4 x4 g4 wd4 => ?_
          rw [if_neg Bool.false_ne_true]
          obtain ⟨w5, b5, h5, n5⟩ := wd4.unhide (o' := .lst us) g4.fr hF2
          have same : upd H4 Dl (.lst us) = H4 := by
            funext a
            by_cases z : a = Dl
            · subst z; rw [upd_same]; exact h5.symm
            · rw [upd_ne z]
          rw [same] at w5
          have xx := (x2.trans g3.b).trans x4
          have l4 := ltt _ _ _ _ e4
          have gg : Agr m1.length al1 ⟨al4.at_, al2.fr⟩ := ⟨fun j hj => (g4.at_ j (by omega)).trans (g2.at_ j hj), g2.fr⟩
          refine ⟨ds.length - (i + 1), by omega, by omega, B4, ⟨al4.at_, al2.fr⟩, _, acc, us, xx, gg, by rw [List.length_take]; omega, w5.take _, b5, fun j c e hd => n5 j c (by rw [List.getElem?_take] at e; split at e; exact e; cases e) hd, h5, ra.mono (g3.b.trans x4), by omega, ?_, q2⟩
          exact RepS.mono (al := al2) (al' := ⟨al4.at_, al2.fr⟩) x4 ⟨fun j hj => g4.at_ j (by omega), rfl⟩ (Nat.le_refl _) rs3
        · next m4 e4 =>
          split at q2
          · next y m5 e5 =>
            refine htu ρ1 m2 true m4 e4 B3 _ σ4 H3 _ wdh rs4' fun B4 al4 H4 x4 g4 wd4 => ?_
            rw [if_pos rfl]
            have l4 := ltt _ _ _ _ e4
            refine htv ρ1 m4 (.dat y) m5 e5 B4 al4 σ4 H4 _ wd4 (rs4'.mono x4 g4 l4) fun B5 al5 v5 H5 x5 g5 wd5 r5 => ?_
            have l5 := lte _ _ _ _ e5
            have ff : al5.fr = (al2.hide Dl (.lst us)).fr := g5.fr.trans g4.fr
            obtain ⟨w6, b6, h6, n6⟩ := wd5.unhide (o' := .lst (us ++ [v5])) ff hF2
            have xx := ((x2.trans g3.b).trans x4).trans x5
            have gg : Agr m1.length al1 ⟨al5.at_, al2.fr⟩ := ⟨fun j hj => (g5.at_ j (by omega)).trans ((g4.at_ j (by omega)).trans (g2.at_ j hj)), g2.fr⟩
            have hlen : us.length < sizeLine := by
              rw [ra.length]
              exact lim_lt (by omega)
            refine ⟨us, h6, hlen, ds.length - (i + 1), by omega, by omega, B5, ⟨al5.at_, al2.fr⟩, _, acc ++ [y], us ++ [v5], xx, gg, by rw [List.length_take]; omega, w6.take _, b6, fun j c e hd => n6 j c (by rw [List.getElem?_take] at e; split at e; exact e; cases e) hd, upd_same, ?_, by rw [List.length_append, List.length_singleton]; omega, ?_, q2⟩
            · exact (ra.mono ((g3.b.trans x4).trans x5)).append (.cons r5 .nil)
            · exact RepS.mono (al := al2) (al' := ⟨al5.at_, al2.fr⟩) (x4.trans x5) ⟨fun j hj => (g5.at_ j (by omega)).trans (g4.at_ j (by omega)), rfl⟩ (Nat.le_refl _) rs3
          · cases q2
        · cases q2
  · exact hi.run _ _ _ _ e1 B al σ H _ wd rs h
/-- the readings in a comprehension's block, wherever it stands -/
def uT (X : Cx) (scope : Scope) (ifs : List Expr) : TT := fun σ H Q => ∀ (s : Shared) (H0 : Hp) (C : Addr) (cl : List (Str × Addr)) (fp : List Addr), wTs (X.blk s H0 scope (compEnvC scope cl C X.env) fp) ifs σ H Q
def uE (X : Cx) (scope : Scope) (elt : Expr) : TE := fun σ H Q => ∀ (s : Shared) (H0 : Hp) (C : Addr) (cl : List (Str × Addr)) (fp : List Addr), wE (X.blk s H0 scope (compEnvC scope cl C X.env) fp) elt σ H Q
theorem uT_ok {scope : Scope} (s : Shared) (H0 : Hp) (C : Addr) (cl : List (Str × Addr)) (fp : List Addr) : PTs (X.blk s H0 scope (compEnvC scope cl C X.env) fp) ifs (uT X scope ifs) := ⟨fun pins s1 σ H Q I h => h s H0 C cl fp pins s1 I⟩
theorem uE_ok {scope : Scope} (s : Shared) (H0 : Hp) (C : Addr) (cl : List (Str × Addr)) (fp : List Addr) : PE (X.blk s H0 scope (compEnvC scope cl C X.env) fp) elt (uE X scope elt) := ⟨fun pins s1 σ H Q I h => h s H0 C cl fp pins s1 I⟩
section
variable {scope : Scope} {own : List (Str × Nat)} {pos : Pos}
theorem lc_len (hi : SI X tg iter mi) {vs : List Nat} (lt : ∀ ρ m o m', tt ρ m = some (o, m') → m.length ≤ m'.length) (le : ∀ ρ m o m', te ρ m = some (o, m') → m.length ≤ m'.length) : ∀ ρ m o m', mLc mi t tt te vs ρ m = some (o, m') → m.length ≤ m'.length := fun ρ m o m' q =>
  bnd_len q (hi.len ρ m) fun ds m1 q1 => by
    obtain ⟨_, zs, qz, _⟩ := mLc_cases q1
    exact Nat.le_of_eq (lcL_len lt le _ _ _ _ _ _ qz).symm
/-- where a comprehension's parts stand in its block -/
structure Blk (X : Cx) (scope : Scope) (ifs : List Expr) (elt : Expr) (tt : TM) (te : EM) : Prop where
  t : ∀ (s : Shared) (H : Hp) (C : Addr) (cl : List (Str × Addr)) (fp : List Addr), STs (X.blk s H scope (compEnvC scope cl C X.env) fp) ifs tt
  e : ∀ (s : Shared) (H : Hp) (C : Addr) (cl : List (Str × Addr)) (fp : List Addr), SE (X.blk s H scope (compEnvC scope cl C X.env) fp) elt te
theorem Blk.lens (b : Blk X scope ifs elt tt te) : (∀ ρ m o m', tt ρ m = some (o, m') → m.length ≤ m'.length) ∧ (∀ ρ m o m', te ρ m = some (o, m') → m.length ≤ m'.length) :=
  ⟨(b.t ⟨{}, #[], {}, 1, {}⟩ (fun _ => none) 0 [] []).len, (b.e ⟨{}, #[], {}, 1, {}⟩ (fun _ => none) 0 [] []).len⟩
theorem Blk.run (b : Blk X scope ifs elt tt te) {vs : List Nat} (ho : t.ok vs = true) (hi : SI X tg iter mi) {ρ : Slots} {m m' : Mem} {o : Out W} (q : mLc mi t tt te vs ρ m = some (o, m')) {B : Hp} {al : Pl} {σ : L2.St} {H : Hp} {Q : VK} (wd : Wd X.K B al m H) (rs : RepS X.K B al m.length σ ρ) (h : AnsE X B al m.length σ Q m' o) :
    tLc (wI X tg iter) (t.g X.K) (uT X scope ifs) (uE X scope elt) vs σ H Q :=
  lc_run ho hi q wd rs h (fun ρ1 m1 b1 m2 e B al σ H Q wd rs hq s H0 C cl fp => (b.t s H0 C cl fp).run _ _ _ _ e B al σ H Q wd rs hq) (fun ρ1 m1 w m2 e B al σ H Q wd rs hq s H0 C cl fp => (b.e s H0 C cl fp).run _ _ _ _ e B al σ H Q wd rs hq) b.lens.1 b.lens.2
theorem se_lc (hc : X.calm = true) (hN : X.N.Nodup) (hi : SI X tg iter mi) (ok : BlkOk X.N X.env.scope scope own) (hg : ∀ (s : Shared) (H : Hp) (C : Addr) (cl : List (Str × Addr)) (fp : List Addr), PG (X.blk s H scope (compEnvC scope cl C X.env) fp) tg (t.g X.K))
    (b : Blk X scope ifs elt tt te) (ho : t.ok (own.map (·.2)) = true) (hs : ∀ x, foldedSetIterable iter X.env x = pure x) : SE X (.ListComp elt [⟨tg, iter, ifs, 0⟩] scope pos) (mLc mi t tt te (own.map (·.2))) :=
  ⟨lc_len hi b.lens.1 b.lens.2, fun ρ m o m' q B al σ H Q wd rs h pins s I => (pe_lc hc hN pi_w ok hg uT_ok uE_ok hs).run pins s σ H Q I (b.run ho hi q wd rs h)⟩
theorem ss_setLc (i : Nat) {y : Str} {py spos : Pos} (hc : X.calm = true) (hN : X.N.Nodup) (hy : X.N[i]? = some y) (hyl : X.env.scope.names.lookup y = some .local) (hsw : swapsWith (.ListComp elt [⟨tg, iter, ifs, 0⟩] scope pos) (some (.Name y py)) spos.line X.env = pure true)
    (hi : SI X tg iter mi) (ok : BlkOk X.N X.env.scope scope own) (hg : ∀ (s : Shared) (H : Hp) (C : Addr) (cl : List (Str × Addr)) (fp : List Addr), PG (X.blk s H scope (compEnvC scope cl C X.env) fp) tg (t.g X.K))
    (b : Blk X scope ifs elt tt te) (ho : t.ok (own.map (·.2)) = true) (hs : ∀ x, foldedSetIterable iter X.env x = pure x) : SS X (.Assign [.Name y py] (.ListComp elt [⟨tg, iter, ifs, 0⟩] scope pos) spos) (sSet i (mLc mi t tt te (own.map (·.2)))) := by
  refine ⟨fun ρ m f m' q => sbd_len q (lc_len hi b.lens.1 b.lens.2 ρ m) fun w m1 q1 => by cases q1; exact Nat.le_refl _, fun ρ m f m' q B al σ H D wd rs h pins s I => (ps_setLc hc hN hy hyl hsw pi_w ok hg uT_ok uE_ok hs).run pins s σ H D I ?_⟩
  show tLc _ _ _ _ _ σ H fun x H1 => D.nx (σ.set i (some x)) H1
  rcases sbd_cases q with ⟨w, m1, e1, e2⟩ | ⟨c, fs, e1, rfl⟩
  · have l1 := lc_len hi b.lens.1 b.lens.2 _ _ _ _ e1
    refine b.run (Q := fun x H1 => D.nx (σ.set i (some x)) H1) ho hi e1 wd rs fun B1 al1 v1 H1 x1 g1 wd1 r1 => ?_
    cases e2
    exact h B1 al1 _ H1 x1 g1 wd1 ((rs.mono x1 g1 l1).set r1)
  · exact b.run (Q := fun x H1 => D.nx (σ.set i (some x)) H1) ho hi e1 wd rs (SFlies.at h rs (lc_len hi b.lens.1 b.lens.2 _ _ _ _ e1))
end
end
end Dm
/-! Dm, part 7: where code stands, the rule for a def, the law's end. -/
namespace Dm
open PySem PySem.Spec PyProof.Rows L2
open Evl (Ex)
/-- where code stands: the names by slot, the scope, the level of calls, whose cells are made here -/
structure Good (X : Cx) (N : List Str) (sc : Scope) (k : Nat) (fn : Str → Bool) : Prop where
  N : X.N = N
  sc : X.env.scope = sc
  room : Room k X.A
  gd : X.A.guards = some []
  calm : X.calm = true
  fn : X.fn = fn
  nd : X.N.Nodup
  sm : ∃ mm, X.base.Ns sysModules mm
/-- .. in a def's own body -/
structure GoodF (X : Cx) (N : List Str) (sc : Scope) (k : Nat) : Prop extends Good X N sc k (fun _ => true) where
  pass : PassesOwn (model X.prog X.w) X.A X.env X.xe
  tk : ∃ E : XK, Takes X (fun cls d _ H => E cls d H)
  stk : X.stack = X.env :: X.outer
  frm : X.env.frame = some X.env.locals
theorem Good.blk {X : Cx} {N : List Str} {sc : Scope} {k : Nat} {fn : Str → Bool} (g : Good X N sc k fn) (scope : Scope) (s : Shared) (H : Hp) (C : Addr) (cl : List (Str × Addr)) (fp : List Addr) :
    Good (X.blk s H scope (compEnvC scope cl C X.env) fp) N (relS scope sc) k (fun x => scope.names.lookup x == some .cell) :=
  ⟨g.N, by show relS scope X.env.scope = relS scope sc; rw [g.sc], g.room, g.gd, g.calm, rfl, g.nd, g.sm⟩
/-- the global facts of a law -/
structure Tx (fa : List He.Fa) (fn : List He.DefD) (K : PySem.W.Frag) (mg : Str → Option Value) (bs : Heap) : Prop where
  says : He.SaysD fa fn K
  inK : K.In bs
  ns : bs.Ns mainGlobals mg
  sm : ∃ mm, bs.Ns sysModules mm
section
variable {fa : List He.Fa} {fn : List He.DefD} {K : PySem.W.Frag} {mg : Str → Option Value} {bs : Heap}
theorem Tx.glo (t : Tx fa fn K mg bs) (i : Nat) {x : Str} (h : fa[i]? = some (.glo x)) : mg x = some (.ref (He.ga K x)) := He.glo_ok t.inK t.ns (t.says.fact i h)
theorem Tx.free (t : Tx fa fn K mg bs) (i : Nat) {x : Str} (h : fa[i]? = some (.free x)) : mg x = none := He.free_ok t.inK t.ns (t.says.fact i h)
theorem Tx.int (t : Tx fa fn K mg bs) (i : Nat) {x : Str} {j : Int} (h : fa[i]? = some (.int x j)) : ∃ tk, mg x = some (.int j tk) := He.int_ok t.inK t.ns (t.says.fact i h)
theorem Tx.str (t : Tx fa fn K mg bs) (i : Nat) {x z : Str} (h : fa[i]? = some (.str x z)) : ∃ tk, mg x = some (.str z tk) := He.str_ok t.inK t.ns (t.says.fact i h)
end
/-- a module's constants -/
theorem se_gint {X : Cx} {x : Str} {j : Int} {pos : Pos} (hg : Gl X x) (hm : ∃ tk, X.mg x = some (.int j tk)) (hd : (x == ("__debug__" : Str)) = false := by decide) : SE X (.Name x pos) (mC (.int j)) := by
  obtain ⟨tk, e⟩ := hm
  exact .ofC (pe_glob (v := .int j) hg e ⟨tk, rfl⟩ hd) fun _ => .int j
theorem se_gstr {X : Cx} {x z : Str} {pos : Pos} (hg : Gl X x) (hm : ∃ tk, X.mg x = some (.str z tk)) (hd : (x == ("__debug__" : Str)) = false := by decide) : SE X (.Name x pos) (mC (.str z)) := by
  obtain ⟨tk, e⟩ := hm
  exact .ofC (pe_glob (v := .str z) hg e ⟨tk, rfl⟩ hd) fun _ => .str z
/-- a def that does what its mirror says -/
structure DefOk (P : Program) (w : World) (K : PySem.W.Frag) (mg : Str → Option Value) (bs : Heap) (x : Str) (k : Nat) (ps : List Str) (mf : FM) : Prop where
  ex : ∃ fd, FnG P w K mg bs k (He.ga K x) fd ps (spM K ps.length mf) ∧ PySem.W.keepIn K (.ref (He.ga K x)) = true ∧ Bdg K fd ps ps.length [] (fun ws _ => ws)
  len : LenF mf
/-- .. called with keywords too -/
structure DefKw (P : Program) (w : World) (K : PySem.W.Frag) (mg : Str → Option Value) (bs : Heap) (x : Str) (k : Nat) (ps : List Str) (mf : FM) (n : Nat) (ks : List Str) (gW : List W → List W → List W) : Prop where
  ex : ∃ fd, FnG P w K mg bs k (He.ga K x) fd ps (spM K ps.length mf) ∧ PySem.W.keepIn K (.ref (He.ga K x)) = true ∧ Bdg K fd ps n ks gW
  len : LenF mf
theorem mFn_len {N : List Str} {body : SM} (h : ∀ ρ m f m', body ρ m = some (f, m') → m.length ≤ m'.length) : LenF (mFn N body) := fun ws m o m' q => by
  rcases mFn_cases q with ⟨w, e, _⟩ | ⟨ρ, e, _⟩ | ⟨c, fs, ρ, e, _⟩ <;> exact h _ _ _ _ e
/-- the arguments given by position alone -/
theorem bdg_pos {K : PySem.W.Frag} {x qual : Str} {params : Arguments} {body : List Stmt} {scope : Scope} {f : Addr} {fd : FuncData} {ps : List Str} {kws : List (Str × V)} (F : FunD K x qual params body scope [] kws f fd)
    (h : ∀ (kV doc pm : Value) (an : Option Addr) (cdv ct : Value) (us : List Value), us.length = ps.length → bindArgs (PySem.W.fnOf x qual params body scope .none kV doc pm an cdv ct) ⟨us, []⟩ = pure (ps.zip us)) : Bdg K fd ps ps.length [] (fun ws _ => ws) := by
  refine ⟨fun us _ => us, fun vs _ => vs, ⟨fun s us ws _ l1 l2 => ?_, fun r _ => r⟩, fun vs _ l _ => l, fun B al j vs zs ws us _ _ r _ => r⟩
  have e : ws = [] := by
    cases ws with
    | nil => rfl
    | cons => cases l2
  subst e
  exact FunD.bindsA F h s us l1
/-- a rearrangement by places: what stands where -/
def byIx {α : Type} (is : List Nat) (xs : List α) : List α := is.filterMap fun i => xs[i]?
theorem byIx_rep {K : PySem.W.Frag} {B : Hp} {al : Pl} {j : Nat} {vs : List V} {ws : List W} (r : RepL K B al j vs ws) : ∀ is : List Nat, RepL K B al j (byIx is vs) (byIx is ws) := by
  have get : ∀ {vs : List V} {ws : List W} (i : Nat), RepL K B al j vs ws → (vs[i]? = none ∧ ws[i]? = none) ∨ ∃ v w, vs[i]? = some v ∧ ws[i]? = some w ∧ RepW K B al j v w := by
    intro vs
    induction vs with
    | nil =>
      intro ws i r
      cases ws with
      | nil => exact .inl ⟨rfl, rfl⟩
      | cons => exact r.elim
    | cons v vs ih =>
      intro ws i r
      cases ws with
      | nil => exact r.elim
      | cons w ws =>
        cases i with
        | zero => exact .inr ⟨v, w, rfl, rfl, r.1⟩
        | succ i => simpa using ih i r.2
  intro is
  induction is with
  | nil => trivial
  | cons i is ih =>
    unfold byIx at ih ⊢
    rw [List.filterMap_cons, List.filterMap_cons]
    rcases get i r with ⟨h1, h2⟩ | ⟨v, w, h1, h2, h3⟩
    · rw [h1, h2]; exact ih
    · rw [h1, h2]; exact ⟨h3, ih⟩
theorem byIx_vals {vs : List V} {us : List Value} (r : Vals vs us) : ∀ is : List Nat, Vals (byIx is vs) (byIx is us) := by
  intro is
  induction is with
  | nil => exact .nil
  | cons i is ih =>
    unfold byIx at ih ⊢
    rw [List.filterMap_cons, List.filterMap_cons]
    cases e : vs[i]? with
    | none => rw [r.none_of e]; exact ih
    | some v =>
      obtain ⟨u, h1, h2⟩ := r.get e
      rw [h1]; exact .cons h2 ih
theorem RepL.append {K : PySem.W.Frag} {B : Hp} {al : Pl} {j : Nat} : ∀ {vs zs : List V} {ws us : List W}, RepL K B al j vs ws → RepL K B al j zs us → RepL K B al j (vs ++ zs) (ws ++ us)
  | [], _, [], _, _, s => s
  | _ :: _, _, _ :: _, _, r, s => ⟨r.1, RepL.append r.2 s⟩
  | [], _, _ :: _, _, r, _ => r.elim
  | _ :: _, _, [], _, r, _ => r.elim
/-- the arguments by position, then by keywords, put into the parameters' order (is: for each parameter its place among them) -/
theorem bdg_kw {K : PySem.W.Frag} {x qual : Str} {params : Arguments} {body : List Stmt} {scope : Scope} {f : Addr} {fd : FuncData} {ps : List Str} {kws : List (Str × V)} (F : FunD K x qual params body scope [] kws f fd) (n : Nat) (ks : List Str) (is : List Nat)
    (h : ∀ (kV doc pm : Value) (an : Option Addr) (cdv ct : Value) (us ws : List Value), us.length = n → ws.length = ks.length → bindArgs (PySem.W.fnOf x qual params body scope .none kV doc pm an cdv ct) ⟨us, ks.zip ws⟩ = pure (ps.zip (byIx is (us ++ ws))))
    (hl : ∀ (vs zs : List V), vs.length = n → zs.length = ks.length → (byIx is (vs ++ zs)).length = ps.length) : Bdg K fd ps n ks (fun ws us => byIx is (ws ++ us)) := by
  refine ⟨fun us ws => byIx is (us ++ ws), fun vs zs => byIx is (vs ++ zs), ⟨fun s us ws _ l1 l2 => ?_, fun r r2 => byIx_vals (r.append r2) is⟩, hl, fun B al j vs zs ws us _ _ r r2 => byIx_rep (r.append r2) is⟩
  obtain ⟨oc, od, dV, kV, doc, pm, an, cdv, ct, osl, rfl, lk, hcd, hD, hK⟩ := F.ex
  rcases hD with ⟨_, rfl⟩ | ⟨e, _⟩
  · exact .of_eq (h kV doc pm an cdv ct us ws l1 l2)
  · exact absurd rfl e
/-- THE RULE for a def -/
theorem def_fnG {P : Program} {w : World} {K : PySem.W.Frag} {mg : Str → Option Value} {bs : Heap} {x qual : Str} {params : Arguments} {bd : List Stmt} {sc : Scope} {dvs : List V} {kws : List (Str × V)} {f : Addr} {fd : FuncData} {N ps : List Str} {k : Nat} {body : SM}
    (F : FunD K x qual params bd sc dvs kws f fd) (S : FnScope N ps sc) (hsm : ∃ mm, bs.Ns sysModules mm) (hb : ∀ X : Cx, X.prog = P → X.w = w → X.K = K → X.mg = mg → X.base = bs → GoodF X N sc k → SSs X bd body) : FnG P w K mg bs (k + 1) f fd ps (spM K ps.length (mFn N body)) := by
  obtain ⟨oc, od, dV, kV, doc, pm, an, cdv, ct, osl, rfl, lk, hcd, _, _⟩ := F.ex
  refine fnG_of lk hcd S (fun vs H Q E h => h.1) fun A fr s H vs Q E hG rm h => ⟨wSs _ bd, pss_w, ?_⟩
  obtain ⟨hl, B, al, m, ws, o, m', q, wd, r, ho⟩ := h
  have hx : Takes (cxOf (L2.CX P w) P w K mg bs N qual sc f cdv A fr s H E) (fun cls d _ H => E cls d H) := takes_of rfl rfl rfl rfl
  have g : GoodF (cxOf (L2.CX P w) P w K mg bs N qual sc f cdv A fr s H E) N sc k := ⟨⟨rfl, rfl, rm, hG, rfl, rfl, S.nd, hsm⟩, passes_of rfl, ⟨E, hx⟩, rfl, rfl⟩
  have b := hb _ rfl rfl rfl rfl rfl g
  have rs := repS_start (N := N) r
  rcases mFn_cases q with ⟨u, e, rfl⟩ | ⟨ρ, e, rfl⟩ | ⟨c, fs, ρ, e, rfl⟩
  · exact b.run _ _ _ _ e B al _ H _ wd rs ho
  · exact b.run _ _ _ _ e B al _ H _ wd rs fun B1 al1 σ1 H1 e1 g1 wd1 rs1 => ho B1 al1 .non H1 e1 g1 wd1 .non
  · exact b.run _ _ _ _ e B al _ H _ wd rs ⟨_, hx, fun B1 al1 σ1 cls oa H1 e1 g1 wd1 rs1 rx => ho B1 al1 cls oa H1 e1 g1 wd1 rx⟩
/-- f(e, ..), every parameter given by position -/
theorem se_callP {X : Cx} {x : Str} {k j : Nat} {ps : List Str} {mf : FM} {e : Expr} {es : List Expr} {ma : AM} {p pos : Pos} (F : DefOk X.prog X.w X.K X.mg X.base x j ps mf) (hj : j ≤ k) (hr : Room k X.A) (hG : X.A.guards = some []) (hg : Gl X x) (hm : X.mg x = some (.ref (He.ga X.K x)))
    (ha : SA X (e :: es) ma) (h0 : noStar e = true := by rfl) (h1 : es.all noStar = true := by rfl) (hdb : (x == ("__debug__" : Str)) = false := by decide) : SE X (.Call (.Name x p) (e :: es) [] pos) (mDef ps.length 0 (fun ws _ => ws) mf ma mNil) := by
  obtain ⟨fd, G, kp, b⟩ := F.ex
  exact se_call (G.mono hj) F.len hr hG b hg hm kp ha h0 h1 hdb
theorem se_callP0 {X : Cx} {x : Str} {k j : Nat} {mf : FM} {p pos : Pos} (F : DefOk X.prog X.w X.K X.mg X.base x j [] mf) (hj : j ≤ k) (hr : Room k X.A) (hG : X.A.guards = some []) (hg : Gl X x) (hm : X.mg x = some (.ref (He.ga X.K x)))
    (hdb : (x == ("__debug__" : Str)) = false := by decide) : SE X (.Call (.Name x p) [] [] pos) (mDef 0 0 (fun ws _ => ws) mf mNil mNil) := by
  obtain ⟨fd, G, kp, b⟩ := F.ex
  exact se_call0 (G.mono hj) F.len hr hG b hg hm kp hdb
/-- f(.., k = v, ..) -/
theorem se_callN {X : Cx} {x : Str} {k j n : Nat} {ps ks : List Str} {mf : FM} {gW : List W → List W → List W} {e : Expr} {es : List Expr} {kws : List Keyword} {ma mk : AM} {p pos : Pos} (F : DefKw X.prog X.w X.K X.mg X.base x j ps mf n ks gW) (hj : j ≤ k) (hr : Room k X.A) (hG : X.A.guards = some []) (hg : Gl X x) (hm : X.mg x = some (.ref (He.ga X.K x)))
    (ha : SA X (e :: es) ma) (hw : SK X kws mk) (hall : (kws.map (·.arg)).all (·.isSome) = true := by rfl) (hks : (kws.map (·.arg)).filterMap id = ks := by rfl) (h0 : noStar e = true := by rfl) (h1 : es.all noStar = true := by rfl) (hdb : (x == ("__debug__" : Str)) = false := by decide) :
    SE X (.Call (.Name x p) (e :: es) kws pos) (mDef n ks.length gW mf ma mk) := by
  obtain ⟨fd, G, kp, b⟩ := F.ex
  exact se_callK (G.mono hj) F.len hr hG b hg hm kp ha hw hall hks h0 h1 hdb
theorem se_callN0 {X : Cx} {x : Str} {k j : Nat} {ps ks : List Str} {mf : FM} {gW : List W → List W → List W} {kws : List Keyword} {mk : AM} {p pos : Pos} (F : DefKw X.prog X.w X.K X.mg X.base x j ps mf 0 ks gW) (hj : j ≤ k) (hr : Room k X.A) (hG : X.A.guards = some []) (hg : Gl X x) (hm : X.mg x = some (.ref (He.ga X.K x)))
    (hw : SK X kws mk) (hall : (kws.map (·.arg)).all (·.isSome) = true := by rfl) (hks : (kws.map (·.arg)).filterMap id = ks := by rfl) (hdb : (x == ("__debug__" : Str)) = false := by decide) :
    SE X (.Call (.Name x p) [] kws pos) (mDef 0 ks.length gW mf mNil mk) := by
  obtain ⟨fd, G, kp, b⟩ := F.ex
  exact se_callK0 (G.mono hj) F.len hr hG b hg hm kp hw hall hks hdb
/-- the law's def: of every script its mirror says True -/
theorem law_sp {K : PySem.W.Frag} {mf : FM} {n : Nat} (h : ∀ ns : List Int, ns.length ≤ n → (∀ z ∈ ns, Builtin.Int.intBits z ≤ 1048576) → ∃ m', mf [.dat (.lst (ns.map .int))] [] = some (.ok (.dat (.bl true)), m')) (H : Hp) (a : Addr) (ns : List Int) (hl : ns.length ≤ n) (hb : ∀ z ∈ ns, Builtin.Int.intBits z ≤ 1048576) (ho : Only H) (hs : SqL K H a (ns.map V.int)) :
    spM K 1 mf [.ref a] H (fun v _ => v = .bl true) fun _ _ _ => False := by
  obtain ⟨m', e⟩ := h ns hl hb
  have noCell : ∀ (k : Nat) (c : Cell), ([] : Mem)[k]? = some c → False := fun k c e => by simp at e
  have wd0 : Wd K H ⟨fun _ => 0, fun _ => none⟩ [] H := ⟨Ex.refl H, fun k c e _ => (noCell k c e).elim, fun j k c c' e => (noCell j c e).elim, fun a u e => (by cases (show (none : Option HO) = some u from e)), fun a ha => absurd rfl ha, fun k c e _ => (noCell k c e).elim⟩
  have rep0 : ∀ {ns : List Int}, Reps K H (ns.map V.int) (ns.map D.int) := fun {ns} => by
    induction ns with
    | nil => exact .nil
    | cons z r ih => exact .cons (.int z) ih
  refine ⟨rfl, H, ⟨fun _ => 0, fun _ => none⟩, [], _, _, m', e, wd0, ⟨.lst hs rep0, trivial⟩, fun B' al' v H' _ _ _ r => ?_⟩
  cases (r : Rep K B' v (.bl true))
  rfl
end Dm
/-! Dm, part 8: data as the library's data; ==, in, repr. -/
namespace Dm
open PySem PySem.Spec PyProof.Rows L2
open Evl (Ex)

/-! ### the library's data -/
mutual
def py : D → PyData
  | .bl b => .bool b
  | .int i => .int i
  | .str x => .str x
  | .tup ds => .tuple (pys ds)
  | .lst ds => .list (pys ds)
  | .dct es => .dict (pyk es)
  | .non => .none
  | .ty _ => .none
  | .cl _ => .none
  | .obj _ _ => .none
  | .exc _ _ => .none
def pys : List D → List PyData
  | [] => []
  | d :: r => py d :: pys r
def pyk : List (D × D) → List (PyData × PyData)
  | [] => []
  | (k, v) :: r => (py k, py v) :: pyk r
end
def okS (x : Str) : Bool := x.cps.toList.all fun c => decide (c < 1114112)
/-- plain data: no dict, no object within -/
def plD : Nat → D → Bool
  | _, .non => true
  | _, .bl _ => true
  | _, .int _ => true
  | _, .str _ => true
  | n + 1, .tup ds => ds.all (plD n)
  | n + 1, .lst ds => ds.all (plD n)
  | _, _ => false
def flatK : D → Bool
  | .int _ => true
  | .str _ => true
  | _ => false
/-- what repr shows: dicts of ints and texts too -/
def shD : Nat → D → Bool
  | _, .non => true
  | _, .bl _ => true
  | _, .int i => decide (i.natAbs.log2 < 1900)
  | _, .str x => okS x
  | n + 1, .tup ds => ds.all (shD n)
  | n + 1, .lst ds => ds.all (shD n)
  | n + 1, .dct es => es.all fun e => flatK e.1 && shD n e.1 && shD n e.2
  | _, _ => false
mutual
/-- a bound of what repr shows -/
def wgt : D → Nat
  | .int _ => 2000
  | .str x => 10 * x.length + 2
  | .tup ds => 4 + wgts ds
  | .lst ds => 4 + wgts ds
  | .dct es => 4 + wgtk es
  | _ => 5
def wgts : List D → Nat
  | [] => 0
  | d :: r => wgt d + 2 + wgts r
def wgtk : List (D × D) → Nat
  | [] => 0
  | (k, v) :: r => wgt k + wgt v + 4 + wgtk r
end
theorem plD_ok : ∀ (n : Nat) (d : D), plD n d = true → (py d).plain = true ∧ (py d).depth ≤ n := by
  intro n
  induction n with
  | zero => intro d h; cases d <;> first | exact ⟨rfl, Nat.zero_le _⟩ | (cases h; done)
  | succ n ih =>
    have all : ∀ ds : List D, ds.all (plD n) = true → PyData.plainAll (pys ds) = true ∧ PyData.depthAll (pys ds) ≤ n := by
      intro ds
      induction ds with
      | nil => intro _; exact ⟨rfl, Nat.zero_le _⟩
      | cons d r ihr =>
        intro h
        rw [List.all_cons, Bool.and_eq_true] at h
        obtain ⟨p1, p2⟩ := ih d h.1
        obtain ⟨q1, q2⟩ := ihr h.2
        refine ⟨?_, ?_⟩
        · show ((py d).plain && PyData.plainAll (pys r)) = true
          rw [p1, q1]; rfl
        · show max (py d).depth (PyData.depthAll (pys r)) ≤ n
          omega
    intro d h
    cases d with
    | tup ds =>
      obtain ⟨p, q⟩ := all ds h
      exact ⟨p, Nat.succ_le_succ q⟩
    | lst ds =>
      obtain ⟨p, q⟩ := all ds h
      exact ⟨p, Nat.succ_le_succ q⟩
    | dct => cases h
    | ty => cases h
    | cl => cases h
    | obj => cases h
    | exc => cases h
    | _ => exact ⟨rfl, Nat.zero_le _⟩
theorem shD_ok : ∀ (n : Nat) (d : D), shD n d = true → (py d).showable = true ∧ (py d).depth ≤ n := by
  intro n
  induction n with
  | zero =>
    intro d h
    cases d <;> first | exact ⟨rfl, Nat.zero_le _⟩ | (cases h; done) | skip
    next i =>
      have h' : i.natAbs.log2 < 1900 := of_decide_eq_true h
      exact ⟨(by show decide (i.natAbs.log2 < 1920) = true; exact decide_eq_true (by omega)), Nat.zero_le _⟩
  | succ n ih =>
    have all : ∀ ds : List D, ds.all (shD n) = true → PyData.showableAll (pys ds) = true ∧ PyData.depthAll (pys ds) ≤ n := by
      intro ds
      induction ds with
      | nil => intro _; exact ⟨rfl, Nat.zero_le _⟩
      | cons d r ihr =>
        intro h
        rw [List.all_cons, Bool.and_eq_true] at h
        obtain ⟨p1, p2⟩ := ih d h.1
        obtain ⟨q1, q2⟩ := ihr h.2
        refine ⟨?_, ?_⟩
        · show ((py d).showable && PyData.showableAll (pys r)) = true
          rw [p1, q1]; rfl
        · show max (py d).depth (PyData.depthAll (pys r)) ≤ n
          omega
    intro d h
    cases d with
    | tup ds =>
      obtain ⟨p, q⟩ := all ds h
      exact ⟨p, Nat.succ_le_succ q⟩
    | lst ds =>
      obtain ⟨p, q⟩ := all ds h
      exact ⟨p, Nat.succ_le_succ q⟩
    | dct es =>
      have h' : (es.all fun e => flatK e.1 && shD n e.1 && shD n e.2) = true := h
      have kv : ∀ es : List (D × D), (es.all fun e => flatK e.1 && shD n e.1 && shD n e.2) = true → PyData.showableKv (pyk es) = true ∧ PyData.depthKv (pyk es) ≤ n := by
        intro es
        induction es with
        | nil => intro _; exact ⟨rfl, Nat.zero_le _⟩
        | cons e r ihr =>
          intro h
          rw [List.all_cons, Bool.and_eq_true, Bool.and_eq_true, Bool.and_eq_true] at h
          obtain ⟨p1, p2⟩ := ih _ h.1.1.2
          obtain ⟨r1, r2⟩ := ih _ h.1.2
          obtain ⟨q1, q2⟩ := ihr h.2
          refine ⟨?_, ?_⟩
          · show ((py e.1).showable && (py e.2).showable && PyData.showableKv (pyk r)) = true
            rw [p1, q1, r1]; rfl
          · show max (max (py e.1).depth (py e.2).depth) (PyData.depthKv (pyk r)) ≤ n
            omega
      obtain ⟨p, q⟩ := kv es h'
      exact ⟨p, Nat.succ_le_succ q⟩
    | int i =>
      have h' : i.natAbs.log2 < 1900 := of_decide_eq_true h
      exact ⟨(by show decide (i.natAbs.log2 < 1920) = true; exact decide_eq_true (by omega)), Nat.zero_le _⟩
    | ty => cases h
    | cl => cases h
    | obj => cases h
    | exc => cases h
    | _ => exact ⟨rfl, Nat.zero_le _⟩
theorem listText_le (ts : List Str) : (listText ts).length ≤ piled ts + 4 := by
  cases ts with
  | nil => decide
  | cons t r =>
    have h := textFrom_length_pos r 1 (("[" : Str) ++ (if (0 : Nat) > 0 then ", " else "" : String) ++ t) (Nat.succ_pos 0)
    have e : ((("[" : Str) ++ (if (0 : Nat) > 0 then ", " else "" : String) ++ t)).length = 1 + t.length := by
      rw [strLen_append, strLen_append]; rfl
    have hX : (listText (t :: r)).length = (textFrom 0 "[" (t :: r)).length + 1 := by
      show (textFrom 0 "[" (t :: r) ++ "]").length = _
      rw [strLen_append]; rfl
    have hY : (textFrom 0 "[" (t :: r)).length = (textFrom 1 (("[" : Str) ++ (if (0 : Nat) > 0 then ", " else "" : String) ++ t) r).length := rfl
    rw [hX, hY, h, e, piled_cons]; omega
theorem tupleText_le (ts : List Str) : (tupleText ts).length ≤ piled ts + 4 := by
  unfold tupleText
  rw [strLen_append, strLen_append]
  have e1 : ((("(" : String) : Str)).length = 1 := rfl
  have e3 : (((if ts.length == 1 then ",)" else ")" : String) : Str)).length ≤ 2 := by split <;> decide
  rw [e1]
  by_cases h : ts = []
  · subst h; decide
  · have := join_length_add ts h
    omega
theorem dictText_le (ts : List Str) : (dictText ts).length ≤ piled ts + 4 := by
  unfold dictText
  rw [strLen_append, strLen_append]
  have e1 : ((("{" : String) : Str)).length = 1 := rfl
  have e3 : ((("}" : String) : Str)).length = 1 := rfl
  rw [e1, e3]
  by_cases h : ts = []
  · subst h; decide
  · have := join_length_add ts h
    omega
theorem shown_le : ∀ (n : Nat) (d : D), shD n d = true → (py d).shown.length ≤ wgt d := by
  have int : ∀ (i : Int), i.natAbs.log2 < 1900 → ((toString i : String) : Str).length ≤ 2000 := fun i h => by
    have e := int_text_length_le (k := 1900) (by decide) h
    rw [PySem.ofString_length]; omega
  have str : ∀ x : Str, okS x = true → (reprText x).length ≤ 10 * x.length + 2 := fun x h => StrLaws.reprText_len x fun c hc => by
    have := of_decide_eq_true (List.all_eq_true.mp h c hc)
    omega
  intro n
  induction n with
  | zero =>
    intro d h
    cases d with
    | int i => exact int i (of_decide_eq_true h)
    | str x => exact str x h
    | bl b => cases b <;> decide
    | non => decide
    | _ => cases h
  | succ n ih =>
    have all : ∀ ds : List D, ds.all (shD n) = true → piled (PyData.shownAll (pys ds)) ≤ wgts ds := by
      intro ds
      induction ds with
      | nil => intro _; exact Nat.le_refl _
      | cons d r ihr =>
        intro h
        rw [List.all_cons, Bool.and_eq_true] at h
        have p := ih d h.1
        have q := ihr h.2
        show piled ((py d).shown :: PyData.shownAll (pys r)) ≤ wgt d + 2 + wgts r
        rw [piled_cons]; omega
    intro d h
    cases d with
    | tup ds =>
      have p := all ds h
      have q := tupleText_le (PyData.shownAll (pys ds))
      show (tupleText (PyData.shownAll (pys ds))).length ≤ 4 + wgts ds
      omega
    | lst ds =>
      have p := all ds h
      have q := listText_le (PyData.shownAll (pys ds))
      show (listText (PyData.shownAll (pys ds))).length ≤ 4 + wgts ds
      omega
    | dct es =>
      have h' : (es.all fun e => flatK e.1 && shD n e.1 && shD n e.2) = true := h
      have kv : ∀ es : List (D × D), (es.all fun e => flatK e.1 && shD n e.1 && shD n e.2) = true → piled (PyData.shownKv (pyk es)) ≤ wgtk es := by
        intro es
        induction es with
        | nil => intro _; exact Nat.le_refl _
        | cons e r ihr =>
          intro h
          rw [List.all_cons, Bool.and_eq_true, Bool.and_eq_true, Bool.and_eq_true] at h
          have p1 := ih _ h.1.1.2
          have p2 := ih _ h.1.2
          have q := ihr h.2
          show piled (((py e.1).shown ++ ": " ++ (py e.2).shown) :: PyData.shownKv (pyk r)) ≤ wgt e.1 + wgt e.2 + 4 + wgtk r
          rw [piled_cons, strLen_append, strLen_append]
          have e2 : (((": " : String) : Str)).length = 2 := rfl
          rw [e2]; omega
      have p := kv es h'
      have q := dictText_le (PyData.shownKv (pyk es))
      show (dictText (PyData.shownKv (pyk es))).length ≤ 4 + wgtk es
      omega
    | int i => exact int i (of_decide_eq_true h)
    | str x => exact str x h
    | bl b => cases b <;> decide
    | non => decide
    | _ => cases h

/-! ### what stands for data reads as data -/
section
variable {X : Cx} {pins : List (Addr × Obj)} {σ : L2.St} {H : Hp} {s : Shared}
theorem notMods (I : Inv X pins σ H s) (hm : ∃ mm, X.base.Ns sysModules mm) {a : Addr} {o : Obj} {its : Array Value} {n : Nat} (e : s.heap.get? a = some o) (d : o.data = .seq its n) : sysModules ≠ a := by
  intro z
  subst z
  obtain ⟨mm, o', es, ep, e', d', _⟩ := hm
  rw [I.bk _ _ e'] at e
  cases e
  rw [d'] at d
  cases d
mutual
theorem Rep.reads (I : Inv X pins σ H s) (hm : ∃ mm, X.base.Ns sysModules mm) : ∀ {v : V} {d : D} {u : Value} {n : Nat}, Rep X.K H v d → (plD n d = true ∨ shD n d = true) → RelV v u → ∃ as, Reads s.heap u (py d) as ∧ sysModules ∉ as
  | _, _, _, _, .non, _, r => by cases r; exact ⟨_, .none, List.not_mem_nil⟩
  | _, _, _, _, .bl b, _, r => by cases r; exact ⟨_, .bool b, List.not_mem_nil⟩
  | _, _, _, _, .int i, _, r => by obtain ⟨t, rfl⟩ := r; exact ⟨_, .int i t, List.not_mem_nil⟩
  | _, _, _, _, .str x, _, r => by obtain ⟨t, rfl⟩ := r; exact ⟨_, .str x t, List.not_mem_nil⟩
  | _, _, _, n, .ty _, h, _ => by cases n <;> rcases h with h | h <;> cases h
  | _, _, _, n, .cl _, h, _ => by cases n <;> rcases h with h | h <;> cases h
  | _, _, _, n, .tup (vs := vs) hs rs, h, r => by
    cases r
    obtain ⟨its, rv, ⟨o, ho, hc, m, hd⟩, _⟩ := I.tuple hs
    cases n with
    | zero => rcases h with h | h <;> cases h
    | succ n =>
      obtain ⟨as, ra, na⟩ := Reps.reads I hm (n := n) rs h rv
      exact ⟨_, .tuple ho hc hd ra, na⟩
  | _, _, _, n, .lst (vs := vs) hs rs, h, r => by
    cases r
    obtain ⟨its, rv, ⟨o, m, ho, hc, _, hd⟩, _⟩ := I.list hs
    cases n with
    | zero => rcases h with h | h <;> cases h
    | succ n =>
      obtain ⟨as, ra, na⟩ := Reps.reads I hm (n := n) rs h rv
      refine ⟨_, .list ho hc hd ra, ?_⟩
      rintro (_ | ⟨_, z⟩)
      · exact notMods I hm ho hd rfl
      · exact na z
  | _, _, _, n, .dct (kvs := kvs) hs rs, h, r => by
    cases r
    obtain ⟨_, hne, vs, kv, o, es, ep, ho, hx, hd, hk, hp, _⟩ := dk_rd I.hok hs
    cases n with
    | zero => rcases h with h | h <;> cases h
    | succ n =>
      rcases h with h | h
      · cases h
      · obtain ⟨as, bs, r1, r2, n1, n2⟩ := RepK.reads I hm (n := n) rs h kv hp
        refine ⟨_, .dict ho hx.1 hd r1 r2, ?_⟩
        rintro z
        rcases List.mem_append.mp z with z | z
        · rcases List.mem_cons.mp z with z | z
          · subst z
            simp at hne
          · exact n1 z
        · exact n2 z
  | _, _, _, n, .dctT (kvs := kvs) hs rs, h, r => by
    cases r
    cases n with
    | zero => rcases h with h | h <;> cases h
    | succ n =>
      rcases h with h | h
      · cases h
      · cases rs with
        | one r1 =>
          have h' : (List.all _ _) = true := h
          rw [List.all_cons] at h'
          cases h'
        | cons r1 r2 =>
          have h' : (List.all _ _) = true := h
          rw [List.all_cons] at h'
          cases h'
  | _, _, _, n, .obj _ _, h, _ => by cases n <;> rcases h with h | h <;> cases h
  | _, _, _, n, .exc0 _, h, _ => by cases n <;> rcases h with h | h <;> cases h
  | _, _, _, n, .exc _ _ _, h, _ => by cases n <;> rcases h with h | h <;> cases h
theorem Reps.reads (I : Inv X pins σ H s) (hm : ∃ mm, X.base.Ns sysModules mm) : ∀ {vs : List V} {ds : List D} {us : List Value} {n : Nat}, Reps X.K H vs ds → (ds.all (plD n) = true ∨ ds.all (shD n) = true) → Vals vs us → ∃ as, ReadsAll s.heap us (pys ds) as ∧ sysModules ∉ as
  | _, _, _, _, .nil, _, r => by cases r; exact ⟨_, .nil, List.not_mem_nil⟩
  | _, _, _, n, .cons q qs, h, r => by
    cases r with
    | cons r1 r2 =>
      rw [List.all_cons, List.all_cons, Bool.and_eq_true, Bool.and_eq_true] at h
      obtain ⟨as, a1, a2⟩ := Rep.reads I hm (n := n) q (h.imp And.left And.left) r1
      obtain ⟨bs, b1, b2⟩ := Reps.reads I hm (n := n) qs (h.imp And.right And.right) r2
      exact ⟨_, .cons a1 b1, fun z => (List.mem_append.mp z).elim a2 b2⟩
theorem RepK.reads (I : Inv X pins σ H s) (hm : ∃ mm, X.base.Ns sysModules mm) : ∀ {kvs : List (Key × V)} {es : List (D × D)} {us : List (Key × Value)} {en : List DictEntry} {n : Nat}, RepK X.K H kvs es → (es.all fun e => flatK e.1 && shD n e.1 && shD n e.2) = true → KV kvs us → Pairs (mixKind X.prog X.w) en us →
    ∃ as bs, ReadsAll s.heap (en.map (·.key)) ((pyk es).map (·.1)) as ∧ ReadsAll s.heap (en.map (·.val)) ((pyk es).map (·.2)) bs ∧ sysModules ∉ as ∧ sysModules ∉ bs
  | _, _, _, _, _, .nil, _, r, p => by
    cases r
    cases p
    exact ⟨_, _, .nil, .nil, List.not_mem_nil, List.not_mem_nil⟩
  | _, _, _, _, n, .cons (k := k) q qs, h, r, p => by
    cases r with
    | cons r1 r2 =>
      cases p with
      | cons p1 p2 p3 =>
        rw [List.all_cons, Bool.and_eq_true, Bool.and_eq_true, Bool.and_eq_true] at h
        obtain ⟨bs1, b1, b2⟩ := Rep.reads I hm (n := n) q (.inr h.1.2) r1.2
        obtain ⟨as, bs, c1, c2, c3, c4⟩ := RepK.reads I hm (n := n) qs h.2 r2 p3
        next kv2 _ en1 _ =>
        have ka : ∃ as1, Reads s.heap en1.key (py (kD k)) as1 ∧ sysModules ∉ as1 := by
          rcases keyIs_shape p1 with ⟨i, t, h1, h2⟩ | ⟨x, t, h1, h2⟩
          · have e : k = .inl i := r1.1.trans h1
            subst e
            rw [h2]
            exact ⟨_, .int i t, List.not_mem_nil⟩
          · have e : k = .inr x := r1.1.trans h1
            subst e
            rw [h2]
            exact ⟨_, .str x t, List.not_mem_nil⟩
        obtain ⟨as1, a1, a2⟩ := ka
        exact ⟨_, _, .cons a1 c1, .cons (show Reads s.heap en1.val _ _ by rw [p2]; exact b1) c2, fun z => (List.mem_append.mp z).elim a2 c3, fun z => (List.mem_append.mp z).elim b2 c4⟩
end
end
end Dm
/-! Dm, part 9: the operations. -/
namespace Dm
open PySem PySem.Spec PyProof.Rows L2
open Evl (Ex)

/-! ### an operation by its answer over data -/
def rDD (X : Cx) (f : D → D → Option D) : R2 := fun x y H Q => ∃ (B : Hp) (dx dy d : D), Ex B H ∧ Vw X.K B H x dx ∧ Vw X.K B H y dy ∧ f dx dy = some d ∧ ∀ B' v H', Gr B B' H H' → Rep X.K B' v d → Q v H'
theorem ops_dd {X : Cx} {f : D → D → Option D} : OpS X (rDD X f) f := fun dx dy d hf B H x y e hx hy Q k => ⟨B, dx, dy, d, e, hx, hy, hf, k⟩
def rUD (X : Cx) (f : D → Option D) : V → Hp → VK → Prop := fun x H Q => ∃ (B : Hp) (dx d : D), Ex B H ∧ Vw X.K B H x dx ∧ f dx = some d ∧ ∀ B' v H', Gr B B' H H' → Rep X.K B' v d → Q v H'
theorem uns_dd {X : Cx} {f : D → Option D} : UnS X (rUD X f) f := fun dx d hf B H x e hx Q k => ⟨B, dx, d, e, hx, hf, k⟩
def rCD (X : Cx) (f : List D → Option D) : List V → Hp → VK → Prop := fun xs H Q => ∃ (B : Hp) (ds : List D) (d : D), Ex B H ∧ VwL X.K B H xs ds ∧ f ds = some d ∧ ∀ B' v H', Gr B B' H H' → Rep X.K B' v d → Q v H'
theorem cas_dd {X : Cx} {f : List D → Option D} : CaS X (rCD X f) f := fun ds d hf B H vs e hx Q k => ⟨B, ds, d, e, hx, hf, k⟩
section
variable {X : Cx} {K : PySem.W.Frag} {B H : Hp} {x : V}
theorem vw_int {i : Int} (h : Vw K B H x (.int i)) : x = .int i := by cases (show Rep K B x (.int i) from h); rfl
theorem vw_bl {i : Bool} (h : Vw K B H x (.bl i)) : x = .bl i := by cases (show Rep K B x (.bl i) from h); rfl
theorem vw_str {i : Str} (h : Vw K B H x (.str i)) : x = .str i := by cases (show Rep K B x (.str i) from h); rfl
theorem vw_non (h : Vw K B H x .non) : x = .non := by cases (show Rep K B x .non from h); rfl
theorem vw_ty {n : String} (h : Vw K B H x (.ty n)) : x = .ty n := by cases (show Rep K B x (.ty n) from h); rfl
theorem vw_cl {c : Str} (h : Vw K B H x (.cl c)) : x = .ref (He.ga K c) := by cases (show Rep K B x (.cl c) from h); rfl
theorem vwl1 {xs : List V} {d : D} (h : VwL K B H xs [d]) : ∃ x, xs = [x] ∧ Vw K B H x d := by
  match xs, h with
  | [x], h => exact ⟨x, rfl, h.1⟩
theorem vwl2 {xs : List V} {d e : D} (h : VwL K B H xs [d, e]) : ∃ x y, xs = [x, y] ∧ Vw K B H x d ∧ Vw K B H y e := by
  match xs, h with
  | [x, y], h => exact ⟨x, y, rfl, h.1, h.2.1⟩
/-- a new tuple, a new list of seen values -/
theorem lay_tup (e : Ex B H) {p : Addr} {vs : List V} {ds : List D} (hp : H p = none) (r : Reps K B vs ds) : Gr B (upd B p (.tup vs)) H (upd H p (.tup vs)) ∧ Rep K (upd B p (.tup vs)) (.ref p) (.tup ds) :=
  have g := Gr.lay (o := .tup vs) e hp
  ⟨g, .tup (.inl (.inl upd_same)) (r.mono g.b)⟩
theorem lay_lst (e : Ex B H) {p : Addr} {vs : List V} {ds : List D} (hp : H p = none) (r : Reps K B vs ds) : Gr B (upd B p (.lst vs)) H (upd H p (.lst vs)) ∧ Rep K (upd B p (.lst vs)) (.ref p) (.lst ds) :=
  have g := Gr.lay (o := .lst vs) e hp
  ⟨g, .lst (.inl (.inl upd_same)) (r.mono g.b)⟩
end

/-! ### numbers, texts, lists -/
def fAdd : D → D → Option D
  | .int i, .int j => some (.int (i + j))
  | .str x, .str y => if x.length + y.length ≤ LIM then some (.str (x ++ y)) else none
  | .lst a, .lst b => if a.length + b.length ≤ LIM then some (.lst (a ++ b)) else none
  | .tup a, .tup b => if a ≠ [] ∧ b ≠ [] ∧ a.length + b.length ≤ LIM then some (.tup (a ++ b)) else none
  | _, _ => none
def fSub : D → D → Option D
  | .int i, .int j => some (.int (i - j))
  | _, _ => none
def fMul : D → D → Option D
  | .int i, .int j => if i.natAbs.log2 + j.natAbs.log2 < 1000000 then some (.int (i * j)) else none
  | .str x, .int k => if 0 ≤ k ∧ k ≤ 100000 ∧ x.length * k.toNat ≤ LIM then some (.str ⟨(List.replicate k.toNat x.cps.toList).flatten.toArray⟩) else none
  | .lst a, .int k => if 0 ≤ k ∧ k ≤ 100000 ∧ a.length * k.toNat ≤ LIM then some (.lst (List.replicate k.toNat a).flatten) else none
  | _, _ => none
def fDiv : D → D → Option D
  | .int i, .int j => if 0 < j ∧ j.natAbs.log2 < 9000 then some (.int (i / j)) else none
  | _, _ => none
def fMod : D → D → Option D
  | .int i, .int j => if 0 < j then some (.int (i % j)) else none
  | _, _ => none
def fPow : D → D → Option D
  | .int i, .int j => if 0 ≤ j ∧ j ≤ 1000000 ∧ i.natAbs < 2 ^ 64 then some (.int (i ^ j.toNat)) else none
  | _, _ => none
theorem reps_flatten {K : PySem.W.Frag} {B : Hp} {vs : List V} {ds : List D} (r : Reps K B vs ds) : ∀ n : Nat, Reps K B (List.replicate n vs).flatten (List.replicate n ds).flatten
  | 0 => .nil
  | n + 1 => by
    rw [List.replicate_succ, List.replicate_succ, List.flatten_cons, List.flatten_cons]
    exact r.append (reps_flatten r n)
section
variable {X : Cx}
/-- list + list, of any lists -/
def rCatL (K : PySem.W.Frag) : R2 := fun x y H Q => ∃ l b xs zs, x = .ref l ∧ y = .ref b ∧ SqL K H l xs ∧ SqL K H b zs ∧ xs.length + zs.length ≤ sizeLine ∧ ∀ p, H p = none → Q (.ref p) (upd H p (.lst (xs ++ zs)))
theorem op_catL : OpR X (binaryOp .Add) (rCatL X.K) := by
  intro pins s σ H x y v u Q I rx ry h
  obtain ⟨l, b, xs, zs, rfl, rfl, hH, hB, hz, q⟩ := h
  cases rx
  cases ry
  obtain ⟨its, r, ⟨o, n, ho, hc, hdn, hd⟩, hl⟩ := I.list hH
  obtain ⟨its2, r2, ⟨o2, n2, ho2, hc2, hdn2, hd2⟩, hl2⟩ := I.list hB
  obtain ⟨cls, dd, data, sl⟩ := o
  obtain ⟨cls2, dd2, data2, sl2⟩ := o2
  simp only at hc hd hc2 hd2
  subst hc hd hc2 hd2
  have e : its.toArray ++ its2.toArray = (its ++ its2).toArray := by simp
  have hz2 : its.toArray.size + its2.toArray.size ≤ sizeLine := by rw [List.size_toArray, List.size_toArray, ← r.length, ← r2.length]; exact hz
  refine concat_meets ⟨_, ho, rfl⟩ ⟨_, ho2, rfl⟩ noFill_list_add seq_list_add PySem.F.slot_list_add PySem.F.entry_list_add (PySem.F.args_list_add_2 _ _) (list_addW l b its.toArray its2.toArray n n2 dd dd2 sl sl2 hz2) ⟨ho, ho2, ?_⟩
  rw [e]
  exact ⟨.ref _, _, I.lnew (t' := s.toks) (r.append r2) (by rw [List.length_append]; exact hz), rfl, q _ I.fresh⟩
theorem od_add : OpR X (binaryOp .Add) (rDD X fAdd) := by
  rintro pins s σ H x y v u Q I rx ry ⟨B, dx, dy, d, e, hx, hy, hf, k⟩
  cases dx with
  | int i =>
    cases dy with
    | int j =>
      cases hf; obtain rfl := vw_int hx; obtain rfl := vw_int hy
      exact op_add pins s σ H _ _ v u Q I rx ry ⟨i, j, rfl, rfl, k B _ H (Gr.refl e) (.int _)⟩
    | _ => cases hf
  | str i =>
    cases dy with
    | str j =>
      have hf' : (if i.length + j.length ≤ LIM then some (D.str (i ++ j)) else none) = some d := hf
      split at hf'
      · next hl =>
        cases hf'; obtain rfl := vw_str hx; obtain rfl := vw_str hy
        exact op_add_str pins s σ H _ _ v u Q I rx ry ⟨i, j, rfl, rfl, lim_ok hl, k B _ H (Gr.refl e) (.str _)⟩
      · cases hf'
    | _ => cases hf
  | lst a =>
    cases dy with
    | lst b =>
      have hf' : (if a.length + b.length ≤ LIM then some (D.lst (a ++ b)) else none) = some d := hf
      split at hf'
      · next hl =>
        cases hf'
        obtain ⟨l1, vs, rfl, q1, r1⟩ := hx
        obtain ⟨l2, zs, rfl, q2, r2⟩ := hy
        refine op_catL pins s σ H _ _ v u Q I rx ry ⟨l1, l2, vs, zs, rfl, rfl, q1, q2, lim_ok (by rw [r1.length, r2.length]; exact hl), fun p hp => ?_⟩
        obtain ⟨g, r⟩ := lay_lst e hp (r1.append r2)
        exact k _ _ _ g r
      · cases hf'
    | _ => cases hf
  | tup a =>
    cases dy with
    | tup b =>
      have hf' : (if a ≠ [] ∧ b ≠ [] ∧ a.length + b.length ≤ LIM then some (D.tup (a ++ b)) else none) = some d := hf
      split at hf'
      · next hl =>
        cases hf'
        obtain ⟨l1, vs, rfl, q1, r1⟩ := hx
        obtain ⟨l2, zs, rfl, q2, r2⟩ := hy
        have n1 : vs ≠ [] := fun z => by subst z; cases r1; exact hl.1 rfl
        have n2 : zs ≠ [] := fun z => by subst z; cases r2; exact hl.2.1 rfl
        refine op_catT pins s σ H _ _ v u Q I rx ry ⟨l1, l2, vs, zs, rfl, rfl, q1.1, q2.1, n1, lim_ok (by rw [r1.length, r2.length]; exact hl.2.2), fun z => absurd z n2, fun _ p hp => ?_⟩
        obtain ⟨g, r⟩ := lay_tup e hp (r1.append r2)
        exact k _ _ _ g r
      · cases hf'
    | _ => cases hf
  | _ => cases dy <;> cases hf
theorem od_sub : OpR X (binaryOp .Sub) (rDD X fSub) := by
  rintro pins s σ H x y v u Q I rx ry ⟨B, dx, dy, d, e, hx, hy, hf, k⟩
  cases dx with
  | int i =>
    cases dy with
    | int j =>
      cases hf; obtain rfl := vw_int hx; obtain rfl := vw_int hy
      exact op_sub pins s σ H _ _ v u Q I rx ry ⟨i, j, rfl, rfl, k B _ H (Gr.refl e) (.int _)⟩
    | _ => cases hf
  | _ => cases dy <;> cases hf
theorem od_div : OpR X (binaryOp .FloorDiv) (rDD X fDiv) := by
  rintro pins s σ H x y v u Q I rx ry ⟨B, dx, dy, d, e, hx, hy, hf, k⟩
  cases dx with
  | int i =>
    cases dy with
    | int j =>
      have hf' : (if 0 < j ∧ j.natAbs.log2 < 9000 then some (D.int (i / j)) else none) = some d := hf
      split at hf'
      · next hl =>
        cases hf'; obtain rfl := vw_int hx; obtain rfl := vw_int hy
        exact op_fdivW pins s σ H _ _ v u Q I rx ry ⟨i, j, rfl, rfl, hl, k B _ H (Gr.refl e) (.int _)⟩
      · cases hf'
    | _ => cases hf
  | _ => cases dy <;> cases hf
theorem od_mod : OpR X (binaryOp .Mod) (rDD X fMod) := by
  rintro pins s σ H x y v u Q I rx ry ⟨B, dx, dy, d, e, hx, hy, hf, k⟩
  cases dx with
  | int i =>
    cases dy with
    | int j =>
      have hf' : (if 0 < j then some (D.int (i % j)) else none) = some d := hf
      split at hf'
      · next hl =>
        cases hf'; obtain rfl := vw_int hx; obtain rfl := vw_int hy
        exact op_mod pins s σ H _ _ v u Q I rx ry ⟨i, j, rfl, rfl, hl, k B _ H (Gr.refl e) (.int _)⟩
      · cases hf'
    | _ => cases hf
  | _ => cases dy <;> cases hf
theorem od_pow : OpR X (binaryOp .Pow) (rDD X fPow) := by
  rintro pins s σ H x y v u Q I rx ry ⟨B, dx, dy, d, e, hx, hy, hf, k⟩
  cases dx with
  | int i =>
    cases dy with
    | int j =>
      have hf' : (if 0 ≤ j ∧ j ≤ 1000000 ∧ i.natAbs < 2 ^ 64 then some (D.int (i ^ j.toNat)) else none) = some d := hf
      split at hf'
      · next hl =>
        cases hf'; obtain rfl := vw_int hx; obtain rfl := vw_int hy
        exact op_pow pins s σ H _ _ v u Q I rx ry ⟨i, j, rfl, rfl, hl, k B _ H (Gr.refl e) (.int _)⟩
      · cases hf'
    | _ => cases hf
  | _ => cases dy <;> cases hf
theorem list_mulW (l : Addr) (items : Array Value) (n : Nat) (dd : Option Addr) (sl : Array (Option Value)) (x : Int) (u : Tok) (hc0 : ¬(!Builtin.List.listFitsIndex x) = true) (hc1 : ¬items.size * x.toNat > (2 ^ 63 - 1) / 8) (hc2 : ¬Builtin.List.listTooLong (items.size * x.toNat) = true) :
    Meets (Builtin.«list.__mul__» ⟨[.ref l, .int x u], []⟩) (fun _ R s => s.heap.get? l = some { cls := .type "list", dict := dd, data := .seq items n, slots := sl } ∧ R (.ok (.ret (Value.ref s.heap.objs.size))) { s with heap := s.heap.push { cls := Value.type "list", data := Data.seq (List.foldl (fun x1 x2 => x1 ++ x2) #[] (List.replicate (if items.isEmpty = true then 0 else x.toNat) items)) }, toks := s.toks }) :=
  .of_wp fun prog w A R s h => by
    obtain ⟨hp, g, d, tk, os⟩ := s; obtain ⟨hl, h⟩ := h
    have hsz := AutoListH.joined_fits hc2
    wp_walk using AutoSeq1.wpAny_loadPart' hl; refine wpAny_ite_false (decide_eq_false (Nat.not_lt.mpr hsz)) ?_; wp_walk using AutoSeq1.wpAny_loadPart' hl; exact ⟨_, rfl, h⟩
theorem int_rmulW (a : Int) (t : Tok) (l : Addr) (items : Array Value) (n : Nat) (dd : Option Addr) (sl : Array (Option Value)) :
    Meets (Builtin.«int.__rmul__» ⟨[.int a t, .ref l], []⟩) (fun _ R s => s.heap.get? l = some { cls := .type "list", dict := dd, data := .seq items n, slots := sl } ∧ R (.ok (.ret Value.notImplemented)) s) :=
  .of_wp fun prog w A R s h => by obtain ⟨hp, g, d, tk, os⟩ := s; obtain ⟨hl, h⟩ := h; wp_walk using AutoSeq1.wpAny_loadPart' hl; exact ⟨_, rfl, h⟩
def rRepL (K : PySem.W.Frag) : R2 := fun x y H Q => ∃ l k xs, x = .ref l ∧ y = .int k ∧ SqL K H l xs ∧ -(2 ^ 63) ≤ k ∧ k < 2 ^ 63 ∧ xs.length * k.toNat ≤ sizeLine ∧
  ∀ p, H p = none → Q (.ref p) (upd H p (.lst (List.replicate k.toNat xs).flatten))
theorem op_repL : OpR X (binaryOp .Mult) (rRepL X.K) := by
  intro pins s σ H x y v u Q I rx ry h
  obtain ⟨l, k, xs, rfl, rfl, hH, h1, h2, hz, q⟩ := h
  cases rx
  obtain ⟨t, rfl⟩ := ry
  obtain ⟨its, r, ⟨o, n, ho, hc, hdn, hd⟩, _⟩ := I.list hH
  obtain ⟨cls, dd, data, sl⟩ := o
  simp only at hc hd
  subst hc hd
  have hl : xs.length = its.length := r.length
  have hlen : its.toArray.size * k.toNat ≤ sizeLine := by rw [List.size_toArray, ← hl]; exact hz
  have hcap : ¬ its.toArray.size * k.toNat > (2 ^ 63 - 1) / 8 := by
    have : (sizeLine : Nat) ≤ (2 ^ 63 - 1) / 8 := by decide
    omega
  have hfit : ¬ (!Builtin.List.listFitsIndex k) = true := by
    rw [fitsIndex_both h1 h2]
    exact Bool.false_ne_true
  have hlong : ¬ Builtin.List.listTooLong (its.toArray.size * k.toNat) = true := by
    rw [notLongL hlen]
    exact Bool.false_ne_true
  have hnew : List.foldl (fun x1 x2 => x1 ++ x2) #[] (List.replicate (if its.toArray.isEmpty = true then 0 else k.toNat) its.toArray) = (List.replicate k.toNat its).flatten.toArray := by
    have f0 : ∀ m : Nat, List.foldl (fun x1 x2 => x1 ++ x2) #[] (List.replicate m its.toArray) = (List.replicate m its).flatten.toArray := fun m => by
      have := foldl_rep its m []
      rw [List.nil_append] at this
      exact this
    rw [f0]
    cases its with
    | nil => simp
    | cons a r' => rw [if_neg (by simp)]
  refine wpAny_binaryOp_repeat_ref (T := "list") (U := "int") (by decide) ⟨_, ho, rfl⟩ (fun s' => typeIs_int s' k t) noFill_list_mul F.fills_int_mul F.slot_int_rmul repeat_list F.slot_int_index.lookup
    (call_meets F.slot_int_rmul (typeIs_int s k t) F.entry_int_rmul (F.args_int_rmul_2 _ _) (int_rmulW k t l its.toArray n dd sl)
      ⟨ho, rfl, ⟨_, ho, rfl⟩, call_meets F.slot_list_mul ⟨_, ho, rfl⟩ F.entry_list_mul (F.args_list_mul_2 _ _) (list_mulW l its.toArray n dd sl k t hfit hcap hlong) ⟨ho, ?_⟩⟩)
  rw [hnew]
  exact ⟨.ref _, _, I.lnew (t' := s.toks) (r.rep k.toNat) (by rw [PyProof.Rows.lm_len_rep_flat, Nat.mul_comm]; exact hz), rfl, q _ I.fresh⟩
theorem foldl_repS (x : Str) : ∀ n : Nat, (List.replicate n x.cps).foldl (· ++ ·) #[] = (List.replicate n x.cps.toList).flatten.toArray := fun n => by
  have : ∀ (n : Nat) (acc : List Nat), (List.replicate n x.cps).foldl (· ++ ·) acc.toArray = (acc ++ (List.replicate n x.cps.toList).flatten).toArray := by
    intro n
    induction n with
    | zero => intro acc; simp
    | succ n ih =>
      intro acc
      rw [List.replicate_succ, List.replicate_succ, List.foldl_cons, List.flatten_cons]
      have e : acc.toArray ++ x.cps = (acc ++ x.cps.toList).toArray := by simp
      rw [e, ih, List.append_assoc]
  have h := this n []
  rw [List.nil_append] at h
  exact h
theorem od_mul : OpR X (binaryOp .Mult) (rDD X fMul) := by
  rintro pins s σ H x y v u Q I rx ry ⟨B, dx, dy, d, e, hx, hy, hf, k⟩
  cases dx with
  | int i =>
    cases dy with
    | int j =>
      have hf' : (if i.natAbs.log2 + j.natAbs.log2 < 1000000 then some (D.int (i * j)) else none) = some d := hf
      split at hf'
      · next hl =>
        cases hf'; obtain rfl := vw_int hx; obtain rfl := vw_int hy
        exact op_mulW pins s σ H _ _ v u Q I rx ry ⟨i, j, rfl, rfl, hl, k B _ H (Gr.refl e) (.int _)⟩
      · cases hf'
    | _ => cases hf
  | str z =>
    cases dy with
    | int j =>
      have hf' : (if 0 ≤ j ∧ j ≤ 100000 ∧ z.length * j.toNat ≤ LIM then some (D.str ⟨(List.replicate j.toNat z.cps.toList).flatten.toArray⟩) else none) = some d := hf
      split at hf'
      · next hl =>
        cases hf'; obtain rfl := vw_str hx; obtain rfl := vw_int hy
        obtain ⟨t, rfl⟩ := rx
        obtain ⟨t', rfl⟩ := ry
        obtain ⟨h0, h1, h2⟩ := hl
        have fin : ∀ t s', Inv X pins σ H s' → EP X pins σ Q (.str ⟨(List.replicate j.toNat z.cps.toList).flatten.toArray⟩ t) s' := fun t s' I' => ⟨.str _, H, I', ⟨_, rfl⟩, k B _ H (Gr.refl e) (.str _)⟩
        have h3 := lim_ok h2
        refine PySem.P.mul_str (by
          rw [decide_eq_false (by omega), decide_eq_false (by omega)]; rfl) (fun a1 a2 => ?_) (fun a1 a2 => ?_) ?_
        · have hs : z.length ≤ LIM := by
            have : 1 ≤ j.toNat := by omega
            exact Nat.le_trans (Nat.le_mul_of_pos_right _ this) h2
          have hL : LIM = 1000000 := rfl
          have : (9223372036854775807 : Int) / 100000 ≤ (2 ^ 63 - 1) / j := by
            have e8 : (2 ^ 63 - 1 : Int) = 9223372036854775807 := by decide
            rw [e8]
            refine (Int.le_ediv_iff_mul_le (by omega)).mpr ?_
            have e9 : (9223372036854775807 : Int) / 100000 = 92233720368547 := by decide
            rw [e9]
            have := Int.mul_le_mul_of_nonneg_left h1 (show (0 : Int) ≤ 92233720368547 by decide)
            omega
          have e5 : (9223372036854775807 : Int) / 100000 = 92233720368547 := by decide
          omega
        · unfold Builtin.Str.tooLong
          exact decide_eq_false (by omega)
        · by_cases c1 : j < 1
          · have : j = 0 := by omega
            subst this
            rw [if_pos (by decide)]
            exact ⟨by decide, fin _ _ (I.tok _)⟩
          · rw [if_neg c1]
            by_cases c2 : (j == 1 || z.length == 0) = true
            · rw [if_pos c2]
              have e6 : (⟨(List.replicate j.toNat z.cps.toList).flatten.toArray⟩ : Str) = z := by
                rw [Bool.or_eq_true, beq_iff_eq, beq_iff_eq] at c2
                rcases c2 with rfl | c2
                · simp
                · have : z.cps.toList = [] := by
                    have hz : z.cps.size = 0 := c2
                    simpa using hz
                  have e7 : z = ⟨#[]⟩ := by
                    obtain ⟨c⟩ := z
                    simp at this
                    rw [this]
                  rw [this, e7]
                  simp
              have := fin t s I
              rw [e6] at this
              exact this
            · rw [if_neg c2, foldl_repS]
              refine ⟨?_, fin _ _ (I.tok _)⟩
              show (List.replicate j.toNat z.cps.toList).flatten.toArray.size ≤ sizeLine
              rw [List.size_toArray, List.length_flatten, List.map_replicate, List.sum_replicate_nat]
              have : z.cps.toList.length = z.length := by simp [Str.length]
              rw [this, Nat.mul_comm]
              exact h3
      · cases hf'
    | _ => cases hf
  | lst a =>
    cases dy with
    | int j =>
      have hf' : (if 0 ≤ j ∧ j ≤ 100000 ∧ a.length * j.toNat ≤ LIM then some (D.lst (List.replicate j.toNat a).flatten) else none) = some d := hf
      split at hf'
      · next hl =>
        cases hf'; obtain rfl := vw_int hy
        obtain ⟨l1, vs, rfl, q1, r1⟩ := hx
        refine op_repL pins s σ H _ _ v u Q I rx ry ⟨l1, j, vs, rfl, rfl, q1, by omega, by omega, lim_ok (by rw [r1.length]; exact hl.2.2), fun p hp => ?_⟩
        obtain ⟨g, r⟩ := lay_lst e hp (reps_flatten r1 j.toNat)
        exact k _ _ _ g r
      · cases hf'
    | _ => cases hf
  | _ => cases dy <;> cases hf
end
end Dm
/-! Dm, part 10: comparisons, subscripts, built-in calls. -/
namespace Dm
open PySem PySem.Spec PyProof.Rows L2
open Evl (Ex)
/-- what the readings of data ask of a place -/
structure Rm (X : Cx) : Prop where
  un : X.A.units + 200 < cLine
  sm : ∃ mm, X.base.Ns sysModules mm
  gd : X.A.guards = some []
  calm : X.calm = true

def fEq : D → D → Option D := fun x y => if plD 60 x = true ∧ plD 60 y = true then some (.bl (PyData.eqv (py x) (py y))) else none
def fNe : D → D → Option D := fun x y => if plD 60 x = true ∧ plD 60 y = true then some (.bl (!PyData.eqv (py x) (py y))) else none
def ltS (x y : Str) : Bool := decide (x.cps.toList < y.cps.toList)
def fLt : D → D → Option D
  | .int i, .int j => some (.bl (decide (i < j)))
  | .str x, .str y => some (.bl (ltS x y))
  | _, _ => none
def fLe : D → D → Option D
  | .int i, .int j => some (.bl (decide (i ≤ j)))
  | _, _ => none
def fGt : D → D → Option D
  | .int i, .int j => some (.bl (decide (j < i)))
  | _, _ => none
def fGe : D → D → Option D
  | .int i, .int j => some (.bl (decide (j ≤ i)))
  | _, _ => none
/-- x within the text y -/
def inS (x y : Str) : Bool := !(Builtin.Str.occurrences y x 0 y.length 1).isEmpty
def keyD : D → Option Key
  | .int i => some (.inl i)
  | .str x => some (.inr x)
  | _ => none
/-- what a dict of ints and texts holds -/
def dGet (es : List (D × D)) (k : Key) : Option D := (es.find? fun e => match keyD e.1 with
  | some k' => decide (k' = k)
  | none => false).map (·.2)
def isKD : D → Bool
  | .int _ => true
  | .str _ => true
  | _ => false
def inD (x : D) : D → Option Bool
  | .str y => (match x with
    | .str z => some (inS z y)
    | _ => none)
  | .lst ds => if plD 60 x = true ∧ ds.all (plD 59) = true then some (ds.any fun y => PyData.eqv (py y) (py x)) else none
  | .tup ds => if plD 60 x = true ∧ ds.all (plD 59) = true then some (ds.any fun y => PyData.eqv (py y) (py x)) else none
  | .dct es => (match keyD x with
    | some k => if es.all (fun e => isKD e.1) then some (dGet es k).isSome else none
    | none => none)
  | _ => none
def fIn : D → D → Option D := fun x y => (inD x y).map .bl
def fNotIn : D → D → Option D := fun x y => (inD x y).map fun b => .bl (!b)
def isNo : D → Bool
  | .non => true
  | _ => false
def isB : D → Option Bool
  | .bl b => some b
  | _ => none
def isD : D → D → Option Bool
  | x, .non => some (isNo x)
  | x, .bl b => some (decide (isB x = some b))
  | _, _ => none
def fIs : D → D → Option D := fun x y => (isD x y).map .bl
def fIsNot : D → D → Option D := fun x y => (isD x y).map fun b => .bl (!b)
section
variable {X : Cx}
theorem two_reads {pins : List (Addr × Obj)} {σ : L2.St} {H B : Hp} {s : Shared} {x y : V} {dx dy : D} {v u : Value} (R : Rm X) (I : Inv X pins σ H s) (e : Ex B H) (hx : Vw X.K B H x dx) (hy : Vw X.K B H y dy) (rx : RelV x v) (ry : RelV y u)
    (px : plD 60 dx = true) (py' : plD 60 dy = true) : (∃ as, Reads s.heap v (py dx) as) ∧ (∃ bs, Reads s.heap u (py dy) bs) ∧ (py dx).plain = true ∧ (py dy).plain = true ∧ X.A.units + min (py dx).depth (py dy).depth < cLine := by
  obtain ⟨as, r1, _⟩ := (hx.rep e).reads I R.sm (n := 60) (.inl px) rx
  obtain ⟨bs, r2, _⟩ := (hy.rep e).reads I R.sm (n := 60) (.inl py') ry
  obtain ⟨p1, d1⟩ := plD_ok 60 dx px
  obtain ⟨p2, d2⟩ := plD_ok 60 dy py'
  have := R.un
  exact ⟨⟨as, r1⟩, ⟨bs, r2⟩, p1, p2, by omega⟩
theorem od_eq (R : Rm X) : OpR X (compareOp .Eq) (rDD X fEq) := by
  rintro pins s σ H x y v u Q I rx ry ⟨B, dx, dy, d, e, hx, hy, hf, k⟩
  unfold fEq at hf
  split at hf
  · next hc =>
    cases hf
    obtain ⟨⟨as, r1⟩, ⟨bs, r2⟩, p1, p2, hu⟩ := two_reads R I e hx hy rx ry hc.1 hc.2
    exact SeqAt.eq_plain r1 r2 p1 p2 hu ⟨.bl _, H, I, rfl, k B _ H (Gr.refl e) (.bl _)⟩
  · cases hf
theorem od_ne (R : Rm X) : OpR X (compareOp .NotEq) (rDD X fNe) := by
  rintro pins s σ H x y v u Q I rx ry ⟨B, dx, dy, d, e, hx, hy, hf, k⟩
  unfold fNe at hf
  split at hf
  · next hc =>
    cases hf
    obtain ⟨⟨as, r1⟩, ⟨bs, r2⟩, p1, p2, hu⟩ := two_reads R I e hx hy rx ry hc.1 hc.2
    exact SeqAt.ne_plain r1 r2 p1 p2 hu ⟨.bl _, H, I, rfl, k B _ H (Gr.refl e) (.bl _)⟩
  · cases hf
theorem od_lt : OpR X (compareOp .Lt) (rDD X fLt) := by
  rintro pins s σ H x y v u Q I rx ry ⟨B, dx, dy, d, e, hx, hy, hf, k⟩
  cases dx with
  | int i =>
    cases dy with
    | int j =>
      cases hf; obtain rfl := vw_int hx; obtain rfl := vw_int hy
      exact op_lt pins s σ H _ _ v u Q I rx ry ⟨i, j, rfl, rfl, k B _ H (Gr.refl e) (.bl _)⟩
    | _ => cases hf
  | str i =>
    cases dy with
    | str j =>
      cases hf; obtain rfl := vw_str hx; obtain rfl := vw_str hy
      exact op_lt_str pins s σ H _ _ v u Q I rx ry ⟨i, j, rfl, rfl, k B _ H (Gr.refl e) (.bl _)⟩
    | _ => cases hf
  | _ => cases dy <;> cases hf
theorem od_le : OpR X (compareOp .LtE) (rDD X fLe) := by
  rintro pins s σ H x y v u Q I rx ry ⟨B, dx, dy, d, e, hx, hy, hf, k⟩
  cases dx with
  | int i =>
    cases dy with
    | int j =>
      cases hf; obtain rfl := vw_int hx; obtain rfl := vw_int hy
      exact op_le pins s σ H _ _ v u Q I rx ry ⟨i, j, rfl, rfl, k B _ H (Gr.refl e) (.bl _)⟩
    | _ => cases hf
  | _ => cases dy <;> cases hf
theorem od_gt : OpR X (compareOp .Gt) (rDD X fGt) := by
  rintro pins s σ H x y v u Q I rx ry ⟨B, dx, dy, d, e, hx, hy, hf, k⟩
  cases dx with
  | int i =>
    cases dy with
    | int j =>
      cases hf; obtain rfl := vw_int hx; obtain rfl := vw_int hy
      exact op_gt pins s σ H _ _ v u Q I rx ry ⟨i, j, rfl, rfl, k B _ H (Gr.refl e) (.bl _)⟩
    | _ => cases hf
  | _ => cases dy <;> cases hf
theorem od_ge : OpR X (compareOp .GtE) (rDD X fGe) := by
  rintro pins s σ H x y v u Q I rx ry ⟨B, dx, dy, d, e, hx, hy, hf, k⟩
  cases dx with
  | int i =>
    cases dy with
    | int j =>
      cases hf; obtain rfl := vw_int hx; obtain rfl := vw_int hy
      exact op_ge pins s σ H _ _ v u Q I rx ry ⟨i, j, rfl, rfl, k B _ H (Gr.refl e) (.bl _)⟩
    | _ => cases hf
  | _ => cases dy <;> cases hf
theorem keyD_val {K : PySem.W.Frag} {B : Hp} {x : V} {d : D} {k : Key} (h : keyD d = some k) (r : Rep K B x d) : x = kV k := by
  cases d with
  | int i => cases h; cases r; rfl
  | str i => cases h; cases r; rfl
  | _ => cases h
theorem keyD_kD (k : Key) : keyD (kD k) = some k := by cases k <;> rfl
theorem dGet_rep {K : PySem.W.Frag} {B : Hp} {k : Key} : ∀ {kvs : List (Key × V)} {es : List (D × D)}, RepK K B kvs es → (dGet es k = none ∧ valV kvs k = none) ∨ ∃ d v, dGet es k = some d ∧ valV kvs k = some v ∧ Rep K B v d
  | _, _, .nil => .inl ⟨rfl, rfl⟩
  | _, _, .cons (k := k') (v := v) (d := d) (r := r) (es := es) h t => by
    unfold dGet valV
    rw [List.find?_cons, List.find?_cons]
    by_cases e : k' = k
    · subst e
      have e1 : (match keyD (kD k', d).1 with
        | some k'' => decide (k'' = k')
        | none => false) = true := by rw [keyD_kD]; exact decide_eq_true rfl
      rw [e1]
      simp only [decide_true]
      exact .inr ⟨d, v, rfl, rfl, h⟩
    · have e1 : (match keyD (kD k', d).1 with
        | some k'' => decide (k'' = k)
        | none => false) = false := by rw [keyD_kD]; exact decide_eq_false e
      have e2 : decide ((k', v).1 = k) = false := decide_eq_false e
      rw [e1, e2]
      exact dGet_rep t
/-- a dict seen, asked at a key -/
theorem vw_get {B H : Hp} {x y : V} {es : List (D × D)} {dk : D} {k : Key} (e : Ex B H) (hx : Vw X.K B H x (.dct es)) (hy : Vw X.K B H y dk) (hk : keyD dk = some k) (ha : es.all (fun e => isKD e.1) = true) :
    ∃ a o, x = .ref a ∧ DGet H a y o ∧ ((dGet es k = none ∧ o = none) ∨ ∃ d v, dGet es k = some d ∧ o = some v ∧ Rep X.K B v d) := by
  have ry : y = kV k := keyD_val hk (hy.rep e)
  obtain ⟨a, rfl, ⟨kvs, q, r⟩ | ⟨kvs, q, r⟩⟩ := hx
  · refine ⟨a, valV kvs k, rfl, .inl ⟨kvs, k, q, ry, rfl⟩, ?_⟩
    rcases dGet_rep (k := k) r with ⟨h1, h2⟩ | ⟨d, v, h1, h2, h3⟩
    · exact .inl ⟨h1, h2⟩
    · exact .inr ⟨d, v, h1, h2, h3⟩
  · cases r with
    | one _ => rw [List.all_cons] at ha; cases ha
    | cons _ _ => rw [List.all_cons] at ha; cases ha
theorem pys_any {x : D} : ∀ ds : List D, ((pys ds).any fun y => PyData.eqv y (py x)) = ds.any fun y => PyData.eqv (py y) (py x)
  | [] => rfl
  | d :: r => by
    show (PyData.eqv (py d) (py x) || ((pys r).any fun y => PyData.eqv y (py x))) = _
    rw [pys_any r, List.any_cons]
theorem in_core (R : Rm X) {pins : List (Addr × Obj)} {σ : L2.St} {H B : Hp} {s : Shared} {x y : V} {dx dy : D} {v u : Value} {b : Bool} {Q : VK} (I : Inv X pins σ H s) (e : Ex B H) (hx : Vw X.K B H x dx) (hy : Vw X.K B H y dy) (rx : RelV x v) (ry : RelV y u) (hf : inD dx dy = some b) :
    (Q (.bl b) H → wpAny (model X.prog X.w) X.A (compareOp .In v u) (EP X pins σ Q) X.xe s) ∧ (Q (.bl (!b)) H → wpAny (model X.prog X.w) X.A (compareOp .NotIn v u) (EP X pins σ Q) X.xe s) := by
  have un := R.un
  have seq : ∀ (ds : List D) (hc : plD 60 dx = true ∧ ds.all (plD 59) = true), X.A.units + 1 + min (PyData.depthAll (pys ds)) (py dx).depth < cLine ∧ PyData.plainAll (pys ds) = true ∧ (py dx).plain = true := fun ds hc => by
    obtain ⟨p1, d1⟩ := plD_ok 60 dx hc.1
    obtain ⟨p2, d2⟩ := plD_ok 60 (.lst ds) hc.2
    exact ⟨by omega, p2, p1⟩
  have fin : ∀ {c : Bool} {s' : Shared}, Inv X pins σ H s' → Q (.bl c) H → EP X pins σ Q (.bool c) s' := fun I' q => ⟨.bl _, H, I', rfl, q⟩
  cases dy with
  | str z =>
    cases dx with
    | str w' =>
      cases hf; obtain rfl := vw_str hx; obtain rfl := vw_str hy
      exact ⟨fun q => op_in_str pins s σ H _ _ v u Q I rx ry ⟨w', z, rfl, rfl, q⟩, fun q => op_notin_str pins s σ H _ _ v u Q I rx ry ⟨w', z, rfl, rfl, q⟩⟩
    | _ => cases hf
  | lst ds =>
    have hf' : (if plD 60 dx = true ∧ ds.all (plD 59) = true then some (ds.any fun y => PyData.eqv (py y) (py dx)) else none) = some b := hf
    split at hf'
    · next hc =>
      cases hf'
      obtain ⟨u1, p1, p2⟩ := seq ds hc
      obtain ⟨as, r1, _⟩ := (hx.rep e).reads I R.sm (n := 60) (.inl hc.1) rx
      obtain ⟨bs, r2, _⟩ := (hy.rep e).reads I R.sm (n := 60) (.inl hc.2) ry
      rw [← pys_any]
      exact ⟨fun q => SeqAt.in_list_data r2 r1 p1 p2 u1 (fin I q), fun q => SeqAt.notIn_list_data r2 r1 p1 p2 u1 (fin I q)⟩
    · cases hf'
  | tup ds =>
    have hf' : (if plD 60 dx = true ∧ ds.all (plD 59) = true then some (ds.any fun y => PyData.eqv (py y) (py dx)) else none) = some b := hf
    split at hf'
    · next hc =>
      cases hf'
      obtain ⟨u1, p1, p2⟩ := seq ds hc
      obtain ⟨as, r1, _⟩ := (hx.rep e).reads I R.sm (n := 60) (.inl hc.1) rx
      obtain ⟨bs, r2, _⟩ := (hy.rep e).reads I R.sm (n := 60) (.inl hc.2) ry
      rw [← pys_any]
      exact ⟨fun q => SeqAt.in_tuple_data r2 r1 p1 p2 u1 (fin I q), fun q => SeqAt.notIn_tuple_data r2 r1 p1 p2 u1 (fin I q)⟩
    · cases hf'
  | dct es =>
    have hf' : (match keyD dx with
      | some k => if es.all (fun e => isKD e.1) then some (dGet es k).isSome else none
      | none => none) = some b := hf
    split at hf'
    · next k hk =>
      split at hf'
      · next ha =>
        cases hf'
        obtain ⟨a, o, rfl, g, ho⟩ := vw_get e hy hx hk ha
        cases (show u = Value.ref a from ry)
        have eo : (dGet es k).isSome = o.isSome := by
          rcases ho with ⟨h1, h2⟩ | ⟨d, v, h1, h2, _⟩ <;> rw [h1, h2] <;> rfl
        rw [eo]
        exact ⟨fun q => d_in (by omega) I g rx fun s' I' => fin I' q, fun q => d_notIn (by omega) I g rx fun s' I' => fin I' q⟩
      · cases hf'
    · cases hf'
  | _ => cases hf
theorem od_in (R : Rm X) : OpR X (compareOp .In) (rDD X fIn) := by
  rintro pins s σ H x y v u Q I rx ry ⟨B, dx, dy, d, e, hx, hy, hf, k⟩
  unfold fIn at hf
  obtain ⟨b, hb, rfl⟩ := Option.map_eq_some_iff.mp hf
  exact (in_core R I e hx hy rx ry hb).1 (k B _ H (Gr.refl e) (.bl _))
theorem od_notIn (R : Rm X) : OpR X (compareOp .NotIn) (rDD X fNotIn) := by
  rintro pins s σ H x y v u Q I rx ry ⟨B, dx, dy, d, e, hx, hy, hf, k⟩
  unfold fNotIn at hf
  obtain ⟨b, hb, rfl⟩ := Option.map_eq_some_iff.mp hf
  exact (in_core R I e hx hy rx ry hb).2 (k B _ H (Gr.refl e) (.bl _))
/-- a value of data: its class, whatever it is -/
theorem vw_is {B H : Hp} {x : V} {d : D} {v : Value} (e : Ex B H) (hx : Vw X.K B H x d) (rx : RelV x v) : (∀ b, plainIs v (.bool b) = true ∧ ((v == .bool b) = decide (isB d = some b))) ∧ ((v == .none) = isNo d) ∧ plainIs v .none = true := by
  have h := hx.rep e
  have ref : ∀ {a : Addr}, x = .ref a → isB d = none → isNo d = false → (∀ b, plainIs v (.bool b) = true ∧ ((v == .bool b) = decide (isB d = some b))) ∧ ((v == .none) = isNo d) ∧ plainIs v .none = true := fun {a} ea h1 h2 => by
    subst ea
    cases (show v = Value.ref a from rx)
    exact ⟨fun b => ⟨rfl, by rw [h1]; exact beq_eq_false_iff_ne.mpr (fun z => by cases z)⟩, by rw [h2]; exact beq_eq_false_iff_ne.mpr (fun z => by cases z), rfl⟩
  cases h with
  | non => cases (show v = Value.none from rx); exact ⟨fun b => ⟨rfl, beq_eq_false_iff_ne.mpr (fun z => by cases z)⟩, rfl, rfl⟩
  | bl c =>
    cases (show v = Value.bool c from rx)
    refine ⟨fun b => ⟨rfl, ?_⟩, beq_eq_false_iff_ne.mpr (fun z => by cases z), rfl⟩
    show (Value.bool c == Value.bool b) = decide (some c = some b)
    by_cases z : c = b
    · subst z; simp
    · rw [decide_eq_false (fun w => z (Option.some.inj w))]
      exact beq_eq_false_iff_ne.mpr (fun w => z (Value.bool.inj w))
  | int i => obtain ⟨t, rfl⟩ := rx; exact ⟨fun b => ⟨rfl, beq_eq_false_iff_ne.mpr (fun z => by cases z)⟩, beq_eq_false_iff_ne.mpr (fun z => by cases z), rfl⟩
  | str i => obtain ⟨t, rfl⟩ := rx; exact ⟨fun b => ⟨rfl, beq_eq_false_iff_ne.mpr (fun z => by cases z)⟩, beq_eq_false_iff_ne.mpr (fun z => by cases z), rfl⟩
  | ty n => cases (show v = Value.type n from rx); exact ⟨fun b => ⟨rfl, beq_eq_false_iff_ne.mpr (fun z => by cases z)⟩, beq_eq_false_iff_ne.mpr (fun z => by cases z), rfl⟩
  | cl c => exact ref rfl rfl rfl
  | tup _ _ => exact ref rfl rfl rfl
  | lst _ _ => exact ref rfl rfl rfl
  | dct _ _ => exact ref rfl rfl rfl
  | dctT _ _ => exact ref rfl rfl rfl
  | obj _ _ => exact ref rfl rfl rfl
  | exc0 _ => exact ref rfl rfl rfl
  | exc _ _ _ => exact ref rfl rfl rfl
theorem od_is : OpR X (compareOp .Is) (rDD X fIs) := by
  rintro pins s σ H x y v u Q I rx ry ⟨B, dx, dy, d, e, hx, hy, hf, k⟩
  obtain ⟨b, hb, rfl⟩ := Option.map_eq_some_iff.mp hf
  obtain ⟨h1, h2, h3⟩ := vw_is e hx rx
  have q := k B _ H (Gr.refl e) (.bl b)
  cases dy with
  | non =>
    cases hb; obtain rfl := vw_non hy
    cases (show u = Value.none from ry)
    exact wpAny_is_plain h3 (by rw [h2]; exact ⟨.bl _, H, I, rfl, q⟩)
  | bl c =>
    cases hb; obtain rfl := vw_bl hy
    cases (show u = Value.bool c from ry)
    exact wpAny_is_plain (h1 c).1 (by rw [(h1 c).2]; exact ⟨.bl _, H, I, rfl, q⟩)
  | _ => cases hb
theorem od_isnot : OpR X (compareOp .IsNot) (rDD X fIsNot) := by
  rintro pins s σ H x y v u Q I rx ry ⟨B, dx, dy, d, e, hx, hy, hf, k⟩
  obtain ⟨b, hb, rfl⟩ := Option.map_eq_some_iff.mp hf
  obtain ⟨h1, h2, h3⟩ := vw_is e hx rx
  have q := k B _ H (Gr.refl e) (.bl (!b))
  cases dy with
  | non =>
    cases hb; obtain rfl := vw_non hy
    cases (show u = Value.none from ry)
    exact wpAny_isNot_plain h3 (by rw [h2]; exact ⟨.bl _, H, I, rfl, q⟩)
  | bl c =>
    cases hb; obtain rfl := vw_bl hy
    cases (show u = Value.bool c from ry)
    exact wpAny_isNot_plain (h1 c).1 (by rw [(h1 c).2]; exact ⟨.bl _, H, I, rfl, q⟩)
  | _ => cases hb

/-! ### subscripts, the sign -/
def fIx : D → D → Option D
  | .lst ds, .int i => atI ds i
  | .tup ds, .int i => atI ds i
  | .str z, .int i => if z.length ≤ LIM then (atI z.cps.toList i).map fun c => .str ⟨#[c]⟩ else none
  | .dct es, k => (match keyD k with
    | some k => if es.all (fun e => isKD e.1) then dGet es k else none
    | none => none)
  | _, _ => none
theorem atI_rep {K : PySem.W.Frag} {B : Hp} {vs : List V} {ds : List D} {i : Int} {d : D} (r : Reps K B vs ds) (h : atI ds i = some d) : ∃ v, atI vs i = some v ∧ Rep K B v d := by
  unfold atI at h ⊢
  rw [r.length]
  cases e : ixN ds.length i with
  | none => rw [e] at h; cases h
  | some j =>
    rw [e] at h
    exact r.get h
theorem od_ix (R : Rm X) : IxR X (rDD X fIx) := by
  rintro value slice pins s σ H x y v u Q I rx ry ⟨B, dx, dy, d, e, hx, hy, hf, k⟩ hs
  cases dx with
  | lst ds =>
    cases dy with
    | int i =>
      obtain ⟨a, vs, rfl, q, r⟩ := hx
      obtain rfl := vw_int hy
      obtain ⟨z, hz, rz⟩ := atI_rep r (show atI ds i = some d from hf)
      exact ix_list value slice pins s σ H _ _ v u Q I rx ry ⟨a, vs, i, z, rfl, rfl, q, hz, k B z H (Gr.refl e) rz⟩ hs
    | _ => cases hf
  | tup ds =>
    cases dy with
    | int i =>
      obtain ⟨a, vs, rfl, q, r⟩ := hx
      obtain rfl := vw_int hy
      obtain ⟨z, hz, rz⟩ := atI_rep r (show atI ds i = some d from hf)
      exact ix_tup value slice pins s σ H _ _ v u Q I rx ry ⟨a, vs, i, z, rfl, rfl, q.1, hz, k B z H (Gr.refl e) rz⟩ hs
    | _ => cases hf
  | str z =>
    cases dy with
    | int i =>
      have hf' : (if z.length ≤ LIM then (atI z.cps.toList i).map fun c => D.str ⟨#[c]⟩ else none) = some d := hf
      split at hf'
      · next hl =>
        obtain ⟨c, hc, rfl⟩ := Option.map_eq_some_iff.mp hf'
        obtain rfl := vw_str hx; obtain rfl := vw_int hy
        exact ix_str value slice pins s σ H _ _ v u Q I rx ry ⟨z, i, c, rfl, rfl, lim_ok hl, hc, k B _ H (Gr.refl e) (.str _)⟩ hs
      · cases hf'
    | _ => cases hf
  | dct es =>
    have hf' : (match keyD dy with
      | some k => if es.all (fun e => isKD e.1) then dGet es k else none
      | none => none) = some d := by cases dy <;> exact hf
    split at hf'
    · next kk hk =>
      split at hf'
      · next ha =>
        obtain ⟨a, o, rfl, g, ho⟩ := vw_get e hx hy hk ha
        cases (show v = Value.ref a from rx)
        rcases ho with ⟨h1, h2⟩ | ⟨d', z, h1, h2, h3⟩
        · rw [h1] at hf'; cases hf'
        · rw [h1] at hf'
          cases hf'
          subst h2
          have un := R.un
          exact tail_any (dict_typeIs I g) PySem.F.slot_dict_getitem.lookup (d_getItem (by omega) I g ry fun w' s' I' rw' => ⟨z, H, I', rw', k B z H (Gr.refl e) (h3.mono (Ex.refl B))⟩) hs
      · cases hf'
    · cases hf'
  | _ => cases dy <;> cases hf
def fNeg : D → Option D
  | .int i => some (.int (-i))
  | _ => none
theorem ud_neg : UnR X (unaryOp .USub) (rUD X fNeg) := by
  rintro pins s σ H x v Q I rx ⟨B, dx, d, e, hx, hf, k⟩
  cases dx with
  | int i =>
    cases hf; obtain rfl := vw_int hx
    exact un_neg pins s σ H _ v Q I rx ⟨i, rfl, k B _ H (Gr.refl e) (.int _)⟩
  | _ => cases hf
theorem plainIx_of {b : Expr} (h : ∀ o i, subscripted b false o i = operate [o, i] (getItem o i)) : PlainIx b := h
end

/-! ### built-in calls -/
def fLen : List D → Option D
  | [.str z] => if z.length ≤ LIM then some (.int z.length) else none
  | [.lst ds] => some (.int ds.length)
  | [.tup ds] => some (.int ds.length)
  | _ => none
def fAbs : List D → Option D
  | [.int i] => some (.int (if i < 0 then -i else i))
  | _ => none
def fMax : List D → Option D
  | [.int i, .int j] => some (.int (if j > i then j else i))
  | _ => none
def fMin : List D → Option D
  | [.int i, .int j] => some (.int (if j < i then j else i))
  | _ => none
def fInt : List D → Option D
  | [.int i] => some (.int i)
  | [.bl b] => some (.int (if b then 1 else 0))
  | _ => none
def fDivmod : List D → Option D
  | [.int i, .int j] => if 0 < j ∧ j.natAbs.log2 < 9000 then some (.tup [.int (i / j), .int (i % j)]) else none
  | _ => none
def bls : List D → Option (List Bool)
  | [] => some []
  | d :: r => match isB d, bls r with
    | some b, some bs => some (b :: bs)
    | _, _ => none
def fAll : List D → Option D
  | [.lst ds] => (bls ds).map fun bs => .bl (bs.all id)
  | _ => none
def fAny : List D → Option D
  | [.lst ds] => (bls ds).map fun bs => .bl (bs.any id)
  | _ => none
/-- the class of data -/
def tyN : D → Option String
  | .non => some "NoneType"
  | .bl _ => some "bool"
  | .int _ => some "int"
  | .str _ => some "str"
  | .tup _ => some "tuple"
  | .lst _ => some "list"
  | .dct _ => some "dict"
  | _ => none
def isiC (t : String) : D → Option Bool
  | .ty n => kitB t n
  | _ => none
def isiA (t : String) : List D → Option Bool
  | [] => some false
  | c :: r => match isiC t c with
    | some true => some true
    | some false => isiA t r
    | none => none
def fIsi : List D → Option D
  | [d, .ty n] => (tyN d).bind fun t => (kitB t n).map .bl
  | [d, .tup cs] => (tyN d).bind fun t => (isiA t cs).map .bl
  | _ => none
def fRepr : List D → Option D
  | [d] => if shD 60 d = true ∧ wgt d ≤ LIM then some (.str (py d).shown) else none
  | _ => none
def fList : List D → Option D
  | [.lst ds] => some (.lst ds)
  | [.tup ds] => some (.lst ds)
  | _ => none
def fTuple : List D → Option D
  | [.lst ds] => some (.tup ds)
  | [.tup ds] => some (.tup ds)
  | _ => none
section
variable {X : Cx}
theorem cd_len : CallR X (.builtin "len") (rCD X fLen) := by
  rintro pins s σ H xs us Q I rs ⟨B, ds, d, e, hx, hf, k⟩
  unfold fLen at hf
  split at hf
  · next z =>
    split at hf
    · next hl =>
      cases hf
      obtain ⟨x, rfl, hv⟩ := vwl1 hx
      obtain rfl := vw_str hv
      exact call_len_str pins s σ H _ us Q I rs ⟨z, rfl, lim_ok hl, k B _ H (Gr.refl e) (.int _)⟩
    · cases hf
  · next zs =>
    cases hf
    obtain ⟨x, rfl, a, vs, rfl, q, r⟩ := vwl1 hx
    exact call_len_seq pins s σ H _ us Q I rs ⟨a, vs, rfl, .inl q, by rw [r.length]; exact k B _ H (Gr.refl e) (.int _)⟩
  · next zs =>
    cases hf
    obtain ⟨x, rfl, a, vs, rfl, q, r⟩ := vwl1 hx
    exact call_len_seq pins s σ H _ us Q I rs ⟨a, vs, rfl, .inr q.1, by rw [r.length]; exact k B _ H (Gr.refl e) (.int _)⟩
  · cases hf
theorem cd_abs : CallR X (.builtin "abs") (rCD X fAbs) := by
  rintro pins s σ H xs us Q I rs ⟨B, ds, d, e, hx, hf, k⟩
  unfold fAbs at hf
  split at hf
  · next i =>
    cases hf
    obtain ⟨x, rfl, hv⟩ := vwl1 hx
    obtain rfl := vw_int hv
    exact call_abs pins s σ H _ us Q I rs ⟨i, rfl, k B _ H (Gr.refl e) (.int _)⟩
  · cases hf
theorem cd_max (R : Rm X) : CallR X (.builtin "max") (rCD X fMax) := by
  rintro pins s σ H xs us Q I rs ⟨B, ds, d, e, hx, hf, k⟩
  unfold fMax at hf
  split at hf
  · next i j =>
    cases hf
    obtain ⟨x, y, rfl, hv, hy⟩ := vwl2 hx
    obtain rfl := vw_int hv; obtain rfl := vw_int hy
    exact call_max2 R.calm pins s σ H _ us Q I rs ⟨i, j, rfl, k B _ H (Gr.refl e) (.int _)⟩
  · cases hf
theorem cd_min (R : Rm X) : CallR X (.builtin "min") (rCD X fMin) := by
  rintro pins s σ H xs us Q I rs ⟨B, ds, d, e, hx, hf, k⟩
  unfold fMin at hf
  split at hf
  · next i j =>
    cases hf
    obtain ⟨x, y, rfl, hv, hy⟩ := vwl2 hx
    obtain rfl := vw_int hv; obtain rfl := vw_int hy
    exact call_min2 R.calm pins s σ H _ us Q I rs ⟨i, j, rfl, k B _ H (Gr.refl e) (.int _)⟩
  · cases hf
theorem cd_int : CallR X (.type "int") (rCD X fInt) := by
  rintro pins s σ H xs us Q I rs ⟨B, ds, d, e, hx, hf, k⟩
  unfold fInt at hf
  split at hf
  · next i =>
    cases hf
    obtain ⟨x, rfl, hv⟩ := vwl1 hx
    obtain rfl := vw_int hv
    exact call_int1 pins s σ H _ us Q I rs (.inl ⟨i, rfl, k B _ H (Gr.refl e) (.int _)⟩)
  · next b =>
    cases hf
    obtain ⟨x, rfl, hv⟩ := vwl1 hx
    obtain rfl := vw_bl hv
    exact call_int1 pins s σ H _ us Q I rs (.inr ⟨b, rfl, k B _ H (Gr.refl e) (.int _)⟩)
  · cases hf
theorem cd_divmod : CallR X (.builtin "divmod") (rCD X fDivmod) := by
  rintro pins s σ H xs us Q I rs ⟨B, ds, d, e, hx, hf, k⟩
  unfold fDivmod at hf
  split at hf
  · next i j =>
    split at hf
    · next hl =>
      cases hf
      obtain ⟨x, y, rfl, hv, hy⟩ := vwl2 hx
      obtain rfl := vw_int hv; obtain rfl := vw_int hy
      obtain ⟨h1, h2⟩ := hl
      have hp : Builtin.divisionGoesByPylong i j = false := PyProof.noPylong_of_log2 h2
      refine call_divmodW pins s σ H _ us Q I rs ⟨i, j, rfl, ⟨h1, hp⟩, fun p hp => ?_⟩
      obtain ⟨g, r⟩ := lay_tup (K := X.K) e hp (.cons (.int (i / j)) (.cons (.int (i % j)) .nil))
      exact k _ _ _ g r
    · cases hf
  · cases hf
theorem bls_rep {K : PySem.W.Frag} {B : Hp} : ∀ {vs : List V} {ds : List D} {bs : List Bool}, Reps K B vs ds → bls ds = some bs → vs = bs.map V.bl
  | _, _, _, .nil, h => by cases h; rfl
  | _, _, _, .cons (v := v) (d := d) (ds := ds) r rs, h => by
    unfold bls at h
    split at h
    · next b bs h1 h2 =>
      cases h
      have e : v = .bl b := by
        cases d with
        | bl c => cases h1; cases r; rfl
        | _ => cases h1
      rw [e, bls_rep rs h2]
      rfl
    · cases h
theorem cd_all (R : Rm X) : CallR X (.builtin "all") (rCD X fAll) := by
  rintro pins s σ H xs us Q I rs ⟨B, ds, d, e, hx, hf, k⟩
  unfold fAll at hf
  split at hf
  · next zs =>
    obtain ⟨bs, hb, rfl⟩ := Option.map_eq_some_iff.mp hf
    obtain ⟨x, rfl, a, vs, rfl, q, r⟩ := vwl1 hx
    have ev := bls_rep r hb
    subst ev
    exact cr_all R.calm pins s σ H _ us Q I rs ⟨a, bs, rfl, q, k B _ H (Gr.refl e) (.bl _)⟩
  · cases hf
theorem cd_any (R : Rm X) : CallR X (.builtin "any") (rCD X fAny) := by
  rintro pins s σ H xs us Q I rs ⟨B, ds, d, e, hx, hf, k⟩
  unfold fAny at hf
  split at hf
  · next zs =>
    obtain ⟨bs, hb, rfl⟩ := Option.map_eq_some_iff.mp hf
    obtain ⟨x, rfl, a, vs, rfl, q, r⟩ := vwl1 hx
    have ev := bls_rep r hb
    subst ev
    exact cr_any R.calm pins s σ H _ us Q I rs ⟨a, bs, rfl, q, k B _ H (Gr.refl e) (.bl _)⟩
  · cases hf
/-- what isinstance asks of data -/
theorem kit_rep {pins : List (Addr × Obj)} {σ : L2.St} {H : Hp} {s : Shared} {x : V} {d : D} {u : Value} {t : String} (I : Inv X pins σ H s) (rx : RelV x u) (r : Rep X.K H x d) (ht : tyN d = some t) :
    ∃ P : Heap → Prop, PySem.W.KitX X.K u (.type t) P ∧ P s.heap ∧ u ≠ .builtin "__main__.__loader__#opaque" := by
  cases r with
  | non => cases ht; exact kit_of I rx (.base .non)
  | bl b => cases ht; exact kit_of I rx (.base (.bl b))
  | int i => cases ht; exact kit_of I rx (.base (.int i))
  | str z => cases ht; exact kit_of I rx (.base (.str z))
  | ty => cases ht
  | cl => cases ht
  | tup q _ =>
    cases ht; cases rx
    obtain ⟨its, _, ⟨o, ho, hc, _⟩, _⟩ := I.tuple q
    exact ⟨_, PySem.W.kitx_tuple, ⟨o, ho, hc⟩, fun z => nomatch z⟩
  | lst q _ =>
    cases ht; cases rx
    obtain ⟨its, _, ⟨o, n, ho, hc, _⟩, _⟩ := I.list q
    exact ⟨_, PySem.W.kitx_list, ⟨o, ho, hc⟩, fun z => nomatch z⟩
  | dct q _ =>
    cases ht; cases rx
    obtain ⟨_, _, vs, _, o, es, ep, h1, h2, _⟩ := dk_rd I.hok q
    exact ⟨_, PySem.W.kitx_dict, ⟨o, h1, h2.1⟩, fun z => nomatch z⟩
  | dctT q _ =>
    cases ht; cases rx
    obtain ⟨_, _, vs, _, o, es, ep, h1, h2, _⟩ := dt_rd I.hok q
    exact ⟨_, PySem.W.kitx_dict, ⟨o, h1, h2.1⟩, fun z => nomatch z⟩
  | obj => cases ht
  | exc0 => cases ht
  | exc => cases ht
theorem isiA_ok {K : PySem.W.Frag} {B : Hp} {t : String} {b : Bool} : ∀ {vs : List V} {cs : List D} {us : List Value}, Reps K B vs cs → Vals vs us → isiA t cs = some b → PySem.W.kitAny K (.type t) us = some b
  | _, _, _, .nil, r, h => by cases r; cases h; rfl
  | _, _, _, .cons (v := v) (d := c) r rs, q, h => by
    cases q with
    | cons q1 q2 =>
      unfold isiA at h
      unfold isiC at h
      cases c with
      | ty n =>
        cases r
        cases (show _ = Value.type n from q1)
        simp only at h
        cases hk : kitB t n with
        | none => rw [hk] at h; cases h
        | some b' =>
          rw [hk] at h
          refine kitAny_cons (kit_ty hk) (fun z => ?_) fun z => ?_
          · subst z
            exact isiA_ok rs q2 h
          · subst z
            cases h
            rfl
      | _ => cases h
theorem cd_isi : CallR X (.builtin "isinstance") (rCD X fIsi) := by
  rintro pins s σ H xs us Q I rs ⟨B, ds, d, e, hx, hf, k⟩
  unfold fIsi at hf
  split at hf
  · next dd n =>
    obtain ⟨t, ht, hf'⟩ := Option.bind_eq_some_iff.mp hf
    obtain ⟨b, hb, rfl⟩ := Option.map_eq_some_iff.mp hf'
    obtain ⟨x, y, rfl, hv, hy⟩ := vwl2 hx
    obtain rfl := vw_ty hy
    obtain ⟨u1, u2, rfl, r1, r2⟩ := vals2 rs
    cases (show u2 = Value.type n from r2)
    obtain ⟨P, Z, p, hn⟩ := kit_rep I r1 (hv.rep e) ht
    exact PySem.W.kia_one Z I.kIn p (kit_ty hb) hn fun tk => ⟨.bl b, H, I.tok tk, rfl, k B _ H (Gr.refl e) (.bl _)⟩
  · next dd cs =>
    obtain ⟨t, ht, hf'⟩ := Option.bind_eq_some_iff.mp hf
    obtain ⟨b, hb, rfl⟩ := Option.map_eq_some_iff.mp hf'
    obtain ⟨x, y, rfl, hv, a, vs, rfl, q, r⟩ := vwl2 hx
    obtain ⟨u1, u2, rfl, r1, r2⟩ := vals2 rs
    cases (show u2 = Value.ref a from r2)
    obtain ⟨P, Z, p, hn⟩ := kit_rep I r1 (hv.rep e) ht
    obtain ⟨its, rv, ⟨o, h1, h2, m, h3⟩, _⟩ := I.tuple q.1
    obtain ⟨oc, od, dt, sl⟩ := o
    simp only at h2 h3
    subst h2 h3
    exact PySem.W.kia_tup Z I.kIn p h1 (isiA_ok r rv hb) hn fun tk => ⟨.bl b, H, I.tok tk, rfl, k B _ H (Gr.refl e) (.bl _)⟩
  · cases hf
theorem cd_list : CallR X (.type "list") (rCD X fList) := by
  rintro pins s σ H xs us Q I rs ⟨B, ds, d, e, hx, hf, k⟩
  unfold fList at hf
  split at hf
  · next zs =>
    cases hf
    obtain ⟨x, rfl, a, vs, rfl, q, r⟩ := vwl1 hx
    refine call_list_of pins s σ H _ us Q I rs ⟨a, vs, rfl, .inl q, fun p hp => ?_⟩
    obtain ⟨g, r⟩ := lay_lst e hp r
    exact k _ _ _ g r
  · next zs =>
    cases hf
    obtain ⟨x, rfl, a, vs, rfl, q, r⟩ := vwl1 hx
    refine call_list_of pins s σ H _ us Q I rs ⟨a, vs, rfl, .inr q.1, fun p hp => ?_⟩
    obtain ⟨g, r⟩ := lay_lst e hp r
    exact k _ _ _ g r
  · cases hf
theorem cd_tuple : CallR X (.type "tuple") (rCD X fTuple) := by
  rintro pins s σ H xs us Q I rs ⟨B, ds, d, e, hx, hf, k⟩
  unfold fTuple at hf
  split at hf
  · next zs =>
    cases hf
    obtain ⟨x, rfl, a, vs, rfl, q, r⟩ := vwl1 hx
    refine call_tuple_of pins s σ H _ us Q I rs ⟨a, vs, rfl, .inl ⟨q, fun p hp => ?_⟩⟩
    obtain ⟨g, r⟩ := lay_tup e hp r
    exact k _ _ _ g r
  · next zs =>
    cases hf
    obtain ⟨x, rfl, a, vs, rfl, q, r⟩ := vwl1 hx
    exact call_tuple_of pins s σ H _ us Q I rs ⟨a, vs, rfl, .inr ⟨q.1, k B _ H (Gr.refl e) (.tup q.2 r)⟩⟩
  · cases hf
theorem cd_repr (R : Rm X) : CallR X (.builtin "repr") (rCD X fRepr) := by
  rintro pins s σ H xs us Q I rs ⟨B, ds, d, e, hx, hf, k⟩
  unfold fRepr at hf
  split at hf
  · next dd =>
    split at hf
    · next hl =>
      cases hf
      obtain ⟨x, rfl, hv⟩ := vwl1 hx
      obtain ⟨u, rfl, rx⟩ := vals1 rs
      obtain ⟨as, ra, na⟩ := (hv.rep e).reads I R.sm (n := 60) (.inr hl.1) rx
      obtain ⟨p1, d1⟩ := shD_ok 60 dd hl.1
      have hz := lim_ok (Nat.le_trans (shown_le 60 dd hl.1) hl.2)
      have un := R.un
      have fin : ∀ {t : Tok} {s' : Shared}, Inv X pins σ H s' → EP X pins σ Q (.str (py dd).shown t) s' := fun I' => ⟨.str _, H, I', ⟨_, rfl⟩, k B _ H (Gr.refl e) (.str _)⟩
      have ref : ∀ {a : Addr}, x = .ref a → wpAny (model X.prog X.w) X.A (call (.builtin "repr") [u]) (EP X pins σ Q) X.xe s := fun {a} ea => by
        subst ea
        cases (show u = Value.ref a from rx)
        exact repr_of_reads' ra p1 (fun _ => na) R.gd (by omega) (fun _ _ z => z) (fun h' u' tk hk => fin (I.kept (t' := tk) hk)) hz
      have hr := hv.rep e
      cases hr with
      | non => cases (show u = Value.none from rx); exact PySem.P.repr_of_none (fin (I.tok _))
      | bl b => cases (show u = Value.bool b from rx); exact PySem.P.repr_of_bool (fin (I.tok _))
      | int i => obtain ⟨t, rfl⟩ := rx; exact PySem.P.repr_of_int (by have := of_decide_eq_true (show decide (i.natAbs.log2 < 1900) = true from hl.1); omega) (fin (I.tok _))
      | str z => obtain ⟨t, rfl⟩ := rx; exact PySem.P.repr_of_str (fin (I.tok _)) hz
      | tup => exact ref rfl
      | lst => exact ref rfl
      | dct => exact ref rfl
      | dctT => exact ref rfl
      | ty => cases hl.1
      | cl => cases hl.1
      | obj => cases hl.1
      | exc0 => cases hl.1
      | exc => cases hl.1
    · cases hf
  · cases hf
end
end Dm
/-! Dm, part 11: stores on handles, methods, chains, displays of dicts. -/
namespace Dm
open PySem PySem.Spec PyProof.Rows L2
open Evl (Ex)

/-! ### a handle's object is written -/
theorem Wd.store {K : PySem.W.Frag} {B H : Hp} {al : Pl} {m : Mem} {k : Nat} {c c' : Cell} {o : HO} (wd : Wd K B al m H) (hk : m[k]? = some c) (hd : c.isDead = false) (hd' : c'.isDead = false) (hc : RepC K B (upd H (al k) o) (al k) c') : Wd K B al (m.set k c') (upd H (al k) o) := by
  obtain ⟨hb, _⟩ := wd.cell k c hk hd
  have hf := wd.fc k c hk hd
  have lk : k < m.length := by
    rw [List.getElem?_eq_some_iff] at hk
    exact hk.1
  have cases_ : ∀ j c1, (m.set k c')[j]? = some c1 → (j = k ∧ c1 = c') ∨ (j ≠ k ∧ m[j]? = some c1) := fun j c1 e => by
    by_cases z : k = j
    · subst z
      rw [List.getElem?_set_self lk] at e
      exact .inl ⟨rfl, (Option.some.inj e).symm⟩
    · rw [List.getElem?_set_ne z] at e
      exact .inr ⟨fun w => z w.symm, e⟩
  have apart : ∀ j c1, m[j]? = some c1 → c1.isDead = false → j ≠ k → al j ≠ al k := fun j c1 e h z w => z (wd.inj j k c1 c e hk h hd w)
  refine ⟨fun a u e => ?_, fun j c1 e h => ?_, fun i j c1 c2 e1 e2 h1 h2 w => ?_, fun a u e => ?_, wd.fb, fun j c1 e h => ?_⟩
  · have z : a ≠ al k := fun z => by rw [z, hb] at e; cases e
    rw [upd_ne z]; exact wd.ext a u e
  · rcases cases_ j c1 e with ⟨rfl, rfl⟩ | ⟨z, e'⟩
    · exact ⟨hb, hc⟩
    · obtain ⟨g1, g2⟩ := wd.cell j c1 e' h
      refine ⟨g1, ?_⟩
      have z' := apart j c1 e' h z
      cases c1 with
      | dead => cases h
      | lst ds => obtain ⟨vs, z1, z2⟩ := g2; exact ⟨vs, by rw [upd_ne z']; exact z1, z2⟩
      | dct es =>
        rcases g2 with ⟨kvs, z1, z2⟩ | ⟨kvs, z1, z2⟩
        · exact .inl ⟨kvs, by rw [upd_ne z']; exact z1, z2⟩
        · exact .inr ⟨kvs, by rw [upd_ne z']; exact z1, z2⟩
      | obj cc fs => obtain ⟨dx, gs, z1, z2⟩ := g2; exact ⟨dx, gs, by rw [upd_ne z']; exact z1, z2⟩
  · have there : ∀ (j : Nat) (c1 : Cell), (m.set k c')[j]? = some c1 → c1.isDead = false → ∃ c2 : Cell, m[j]? = some c2 ∧ c2.isDead = false := fun j c1 e h => by
      rcases cases_ j c1 e with ⟨rfl, rfl⟩ | ⟨z, e'⟩
      · exact ⟨c, hk, hd⟩
      · exact ⟨c1, e', h⟩
    obtain ⟨d1, f1, g1⟩ := there i c1 e1 h1
    obtain ⟨d2, f2, g2⟩ := there j c2 e2 h2
    exact wd.inj i j d1 d2 f1 f2 g1 g2 w
  · have z : a ≠ al k := fun z => by rw [z, hf] at e; cases e
    rw [upd_ne z]; exact wd.fx a u e
  · rcases cases_ j c1 e with ⟨rfl, rfl⟩ | ⟨z, e'⟩
    · exact hf
    · exact wd.fc j c1 e' h
theorem set_len {m : Mem} {k : Nat} {c : Cell} : (m.set k c).length = m.length := List.length_set

/-! ### o[i] = v on a handle -/
def dPut (es : List (D × D)) (k : Key) (v : D) : List (D × D) :=
  if (es.any fun e => decide (keyD e.1 = some k)) = true then es.map (fun e => if keyD e.1 = some k then (e.1, v) else e) else es ++ [(kD k, v)]
def stC : Cell → D → D → Option Cell
  | .lst ds, .int i, v => (ixN ds.length i).map fun j => .lst (ds.set j v)
  | .dct es, k, v => (match keyD k with
    | some kk => if es.all (fun e => isKD e.1) = true ∧ es.length < LIM then some (.dct (dPut es kk v)) else none
    | none => none)
  | _, _, _ => none
theorem dPut_rep {K : PySem.W.Frag} {B : Hp} {k : Key} {v : V} {d : D} (r : Rep K B v d) {kvs : List (Key × V)} {es : List (D × D)} (h : RepK K B kvs es) : RepK K B (putK kvs k v) (dPut es k d) := by
  have any : ∀ {kvs : List (Key × V)} {es : List (D × D)}, RepK K B kvs es → (kvs.any fun kv => decide (kv.1 = k)) = es.any fun e => decide (keyD e.1 = some k) := by
    intro kvs es h
    induction kvs generalizing es with
    | nil => cases h; rfl
    | cons p r ih =>
      cases h with
      | cons h1 h2 =>
        rw [List.any_cons, List.any_cons, ih h2, keyD_kD]
        congr 1
        simp
  have mp : ∀ {kvs : List (Key × V)} {es : List (D × D)}, RepK K B kvs es → RepK K B (kvs.map fun kv => if kv.1 = k then (kv.1, v) else kv) (es.map fun e => if keyD e.1 = some k then (e.1, d) else e) := by
    intro kvs es h
    induction kvs generalizing es with
    | nil => cases h; exact .nil
    | cons p r' ih =>
      cases h with
      | cons h1 h2 =>
        rw [List.map_cons, List.map_cons, keyD_kD]
        next k' v' d' es' =>
        by_cases e : k' = k
        · subst e
          rw [if_pos rfl, if_pos rfl]
          exact .cons r (ih h2)
        · rw [if_neg e, if_neg (fun z => e (Option.some.inj z))]
          exact .cons h1 (ih h2)
  have ap : ∀ {kvs : List (Key × V)} {es : List (D × D)}, RepK K B kvs es → RepK K B (kvs ++ [(k, v)]) (es ++ [(kD k, d)]) := by
    intro kvs es h
    induction kvs generalizing es with
    | nil => cases h; exact .cons r .nil
    | cons p r' ih => cases h with | cons h1 h2 => exact .cons h1 (ih h2)
  unfold putK dPut
  rw [any h]
  by_cases e : (es.any fun e => decide (keyD e.1 = some k)) = true
  · rw [if_pos e, if_pos e]; exact mp h
  · rw [if_neg e, if_neg e]; exact ap h
def rStC (X : Cx) : TSet := fun o i v H Q => ∃ (B : Hp) (a : Addr) (c c' : Cell) (di dv : D), o = .ref a ∧ Ex B H ∧ RepC X.K B H a c ∧ Vw X.K B H i di ∧ Rep X.K B v dv ∧ stC c di dv = some c' ∧ ∀ o', RepC X.K B (upd H a o') a c' → Q (upd H a o')
section
variable {X : Cx}
theorem set_C (R : Rm X) : PSet X (rStC X) := by
  rintro pins s σ H o i v ov iv u Q I ro ri rv ⟨B, a, c, c', di, dv, rfl, e, hc, hi, hv, hs, q⟩
  cases c with
  | lst ds =>
    obtain ⟨vs, ha, r⟩ := hc
    cases di with
    | int k =>
      obtain rfl := vw_int hi
      obtain ⟨j, hj, rfl⟩ := Option.map_eq_some_iff.mp (show (ixN ds.length k).map (fun j => Cell.lst (ds.set j dv)) = some c' from hs)
      exact set_list pins s σ H _ _ v ov iv u Q I ro ri rv ⟨a, vs, k, j, rfl, rfl, ha, by rw [r.length]; exact hj, q _ ⟨_, upd_same, r.set hv j⟩⟩
    | _ => cases hs
  | dct es =>
    have hs' : (match keyD di with
      | some kk => if es.all (fun e => isKD e.1) = true ∧ es.length < LIM then some (Cell.dct (dPut es kk dv)) else none
      | none => none) = some c' := by cases di <;> exact hs
    split at hs'
    · next kk hk =>
      split at hs'
      · next ha =>
        cases hs'
        cases (show ov = Value.ref a from ro)
        have un := R.un
        rcases hc with ⟨kvs, h1, h2⟩ | ⟨kvs, h1, h2⟩
        · have ri' : i = kV kk := keyD_val hk (hi.rep e)
          refine d_setItem (by omega) I (.inl ⟨kvs, kk, h1, ri', by rw [h2.length]; exact lim_lt ha.2, rfl⟩) ri rv fun s' I' => ⟨_, I', q _ (.inl ⟨_, upd_same, dPut_rep hv h2⟩)⟩
        · cases h2 with
          | one _ => have := ha.1; rw [List.all_cons] at this; cases this
          | cons _ _ => have := ha.1; rw [List.all_cons] at this; cases this
      · cases hs'
    · cases hs'
  | _ => cases hs
def gIdx (mo mi : EM) : GM := fun w ρ m => match w with
  | .hdl _ => none
  | .dat v => (match mo ρ m with
    | some (.ok (.hdl k), m1) => (match mi ρ m1 with
      | some (.ok wi, m2) => (match view m2 wi, m2[k]? with
        | some di, some c => (match stC c di v with
          | some c' => some (.nx ρ, m2.set k c')
          | none => none)
        | _, _ => none)
      | _ => none)
    | _ => none)
theorem gIdx_cases {mo mi : EM} {w : W} {ρ : Slots} {m m' : Mem} {f : Fl} (q : gIdx mo mi w ρ m = some (f, m')) : ∃ v k m1 wi m2 di c c', w = .dat v ∧ mo ρ m = some (.ok (.hdl k), m1) ∧ mi ρ m1 = some (.ok wi, m2) ∧ view m2 wi = some di ∧ m2[k]? = some c ∧ stC c di v = some c' ∧ f = .nx ρ ∧ m' = m2.set k c' := by
  unfold gIdx at q
  split at q
  · cases q
  · next v =>
    split at q
    · next k m1 e1 =>
      split at q
      · next wi m2 e2 =>
        split at q
        · next di c e3 e4 =>
          split at q
          · next c' e5 => cases q; exact ⟨v, k, m1, wi, m2, di, c, c', rfl, e1, e2, e3, e4, e5, rfl, rfl⟩
          · cases q
        · cases q
      · cases q
    · cases q
theorem stC_live {c c' : Cell} {i v : D} (h : stC c i v = some c') : c.isDead = false ∧ c'.isDead = false := by
  cases c with
  | lst ds =>
    cases i with
    | int k => obtain ⟨j, _, rfl⟩ := Option.map_eq_some_iff.mp (show (ixN ds.length k).map (fun j => Cell.lst (ds.set j v)) = some c' from h); exact ⟨rfl, rfl⟩
    | _ => cases h
  | dct es =>
    have hs' : (match keyD i with
      | some kk => if es.all (fun e => isKD e.1) = true ∧ es.length < LIM then some (Cell.dct (dPut es kk v)) else none
      | none => none) = some c' := by cases i <;> exact h
    split at hs'
    · split at hs'
      · cases hs'; exact ⟨rfl, rfl⟩
      · cases hs'
    · cases hs'
  | _ => cases h
theorem sg_ix (R : Rm X) {o i : Expr} {mo mi : EM} {pos : Pos} (ho : SE X o mo) (hi : SE X i mi)
    (ha : ∀ v, assign (.Subscript o i pos) X.env v = (do
      let ov ← holding [v] (eval o X.env)
      let iv ← holding [v, ov] (eval i X.env)
      standAt pos
      holding [v, ov, iv] (setItem ov iv v)
      release [v, ov, iv] []) := by intro _; rfl) : SG X (.Subscript o i pos) (gIdx mo mi) := by
  refine ⟨fun w ρ m f m' q => ?_, fun w ρ m f m' q => ?_, fun w ρ m ρ' m' q B al σ H v Q wd rs r h pins s u I ru => (pg_sub pe_w pe_w (set_C R) ha).run pins s σ H v u Q I ru ?_⟩
  · obtain ⟨v, k, m1, wi, m2, di, c, c', rfl, e1, e2, _, _, _, _, rfl⟩ := gIdx_cases q
    rw [set_len]
    exact Nat.le_trans (ho.len _ _ _ _ e1) (hi.len _ _ _ _ e2)
  · obtain ⟨v, k, m1, wi, m2, di, c, c', rfl, _, _, _, _, _, rfl, _⟩ := gIdx_cases q
    exact ⟨_, rfl⟩
  · obtain ⟨dv, k, m1, wi, m2, di, c, c', rfl, e1, e2, e3, e4, e5, ef, rfl⟩ := gIdx_cases q
    cases ef
    refine ho.run ρ m _ m1 e1 B al σ H _ wd rs fun B1 al1 v1 H1 x1 g1 wd1 r1 => ?_
    have l1 := ho.len _ _ _ _ e1
    refine hi.run ρ m1 _ m2 e2 B1 al1 σ H1 _ wd1 (rs.mono x1 g1 l1) fun B2 al2 v2 H2 x2 g2 wd2 r2 => ?_
    have l2 := hi.len _ _ _ _ e2
    obtain ⟨d1, d2⟩ := stC_live e5
    obtain ⟨rfl, hk⟩ : v1 = .ref (al1 k) ∧ k < m1.length := r1
    have ek : al2 k = al1 k := g2.at_ k hk
    obtain ⟨cb, cc⟩ := wd2.cell k c e4 d1
    rw [ek] at cc
    refine ⟨B2, al1 k, c, c', di, dv, rfl, wd2.ext, cc, wd2.view r2 e3, (show Rep X.K B v dv from r).mono (x1.trans x2), e5, fun o' hc' => ?_⟩
    rw [← ek] at hc' ⊢
    have w3 := wd2.store (o := o') e4 d1 d2 hc'
    refine h B2 al2 σ _ (x1.trans x2) (g1.trans g2 l1) w3 ?_
    rw [set_len]
    exact rs.mono (x1.trans x2) (g1.trans g2 l1) (Nat.le_trans l1 l2)
end

/-! ### chains of two comparisons -/
def mChain (f g : D → D → Option D) (ma mb mc : EM) : EM := fun ρ m => bnd (ma ρ m) fun x m1 => bnd (mb ρ m1) fun y m2 => bnd (ap2 f x y m2) fun w m3 => bnd (wBool w m3) fun b m4 => match b with
  | true => bnd (mc ρ m4) fun z m5 => ap2 g y z m5
  | false => rd (.bl false) m4
section
variable {X : Cx} {a b c : Expr} {ma mb mc : EM} {f g : D → D → Option D} {r r' : R2} {pos : Pos} {op op' : CmpOp}
theorem chain_len (ha : SE X a ma) (hb : SE X b mb) (hc : SE X c mc) : ∀ ρ m o m', mChain f g ma mb mc ρ m = some (o, m') → m.length ≤ m'.length := fun ρ m o m' q =>
  bnd_len q (ha.len ρ m) fun x m1 q1 => bnd_len q1 (hb.len ρ m1) fun y m2 q2 => bnd_len q2 (fun o1 m1 e => by obtain ⟨_, _, _, _, _, _, _, rfl⟩ := ap2_eq e; exact Nat.le_refl _) fun w m3 q3 =>
    bnd_len q3 wBool_len fun b m4 q4 => by
      cases b with
      | true => exact bnd_len q4 (hc.len ρ m4) fun z m5 q5 => by obtain ⟨_, _, _, _, _, _, _, rfl⟩ := ap2_eq q5; exact Nat.le_refl _
      | false => cases q4; exact Nat.le_refl _
theorem chain_run (hs : OpS X r f) (hs' : OpS X r' g) (ha : SE X a ma) (hb : SE X b mb) (hc : SE X c mc) {ρ : Slots} {m m' : Mem} {o : Out W} (q : mChain f g ma mb mc ρ m = some (o, m')) {B : Hp} {al : Pl} {σ : L2.St} {H : Hp} {Q : VK}
    (wd : Wd X.K B al m H) (rs : RepS X.K B al m.length σ ρ) (h : AnsE X B al m.length σ Q m' o) : tChain r r' (wE X a) (wE X b) (wE X c) σ H Q := by
  refine ha.seq q wd rs h.res fun x m1 q1 l1 B1 al1 v1 H1 e1 g1 wd1 r1 => ?_
  refine hb.seq q1 wd1 (rs.mono e1 g1 l1) (fun c fs z => (h.res c fs z).mono e1 g1 l1) fun y m2 q2 l2 B2 al2 v2 H2 e2 g2 wd2 r2 => ?_
  rcases bnd_cases q2 with ⟨w, m3, e3, q3⟩ | ⟨_, _, e3, _⟩
  rotate_left
  · obtain ⟨_, _, _, _, _, _, z, _⟩ := ap2_eq e3; cases z
  obtain ⟨dx, dy, d, hx, hy, hf, ew, rfl⟩ := ap2_eq e3
  cases ew
  rcases bnd_cases q3 with ⟨bb, m4, e4, q4⟩ | ⟨_, _, e4, _⟩
  rotate_left
  · obtain ⟨_, _, z, _⟩ := wBool_eq e4; cases z
  obtain ⟨b', ew, eb, rfl⟩ := wBool_eq e4
  cases eb
  cases ew
  refine hs dx dy _ hf B2 H2 v1 v2 wd2.ext (wd2.view (r1.mono e2 g2 l2) hx) (wd2.view r2 hy) _ fun B3 v3 H3 g3 r3 => ?_
  cases (r3 : Rep X.K B3 v3 (.bl bb))
  have wd3 := wd2.grow g3
  have x3 := (e1.trans e2).trans g3.b
  have gg := g1.trans g2 l1
  refine ⟨bb, rfl, ?_⟩
  cases bb with
  | true =>
    rw [if_pos rfl]
    have l12 := Nat.le_trans l1 l2
    refine hc.seq q4 wd3 (rs.mono x3 gg l12) (fun c fs z => (h.res c fs z).mono x3 gg l12) fun z m5 q5 l5 B5 al5 v5 H5 e5 g5 wd5 r5 => ?_
    obtain ⟨dy', dz, d', hy', hz, hg, rfl, rfl⟩ := ap2_eq q5
    refine hs' dy' dz d' hg B5 H5 v2 v5 wd5.ext (wd5.view ((r2.mono g3.b (Agr.refl) (Nat.le_refl _)).mono e5 g5 l5) hy') (wd5.view r5 hz) Q fun B6 v6 H6 g6 r6 => ?_
    exact h B6 al5 v6 H6 ((x3.trans e5).trans g6.b) (gg.trans g5 l12) (wd5.grow g6) r6
  | false =>
    rw [if_neg Bool.false_ne_true]
    cases q4
    exact h B3 al2 _ H3 x3 gg wd3 (.bl false)
theorem se_chain (ho : OpR X (compareOp op) r) (ho' : OpR X (compareOp op') r') (hs : OpS X r f) (hs' : OpS X r' g) (ha : SE X a ma) (hb : SE X b mb) (hc : SE X c mc)
    (hm : lastMarks [op, op'] [b, c] = false := by with_unfolding_all rfl) : SE X (.Compare a [op, op'] [b, c] pos) (mChain f g ma mb mc) :=
  ⟨chain_len ha hb hc, fun ρ m o m' q B al σ H Q wd rs h pins s I => (pe_chain ho ho' pe_w pe_w pe_w hm).run pins s σ H Q I (chain_run hs hs' ha hb hc q wd rs h)⟩
theorem st_chain (ho : OpR X (compareOp op) r) (ho' : OpR X (compareOp op') r') (hs : OpS X r f) (hs' : OpS X r' g) (ha : SE X a ma) (hb : SE X b mb) (hc : SE X c mc)
    (hm : lastMarks [op, op'] [b, c] = false := by with_unfolding_all rfl) : ST X (.Compare a [op, op'] [b, c] pos) (mTest (mChain f g ma mb mc)) := by
  have he : SE X (.Compare a [op, op'] [b, c] pos) (mChain f g ma mb mc) := se_chain ho ho' hs hs' ha hb hc hm
  refine ⟨mTest_len he, fun ρ m o m' q B al σ H Q wd rs h pins s I => (pt_chain ho ho' pe_w pe_w pe_w hm).run pins s σ H Q I ?_⟩
  rcases bnd_cases q with ⟨w, m1, e1, e2⟩ | ⟨c, fs, e1, rfl⟩
  · obtain ⟨b', rfl, rfl, rfl⟩ := wBool_eq e2
    refine chain_run (Q := fun x H' => ∃ k, x = .bl k ∧ Q k H') hs hs' ha hb hc e1 wd rs fun B1 al1 v1 H1 e g wd1 r1 => ?_
    cases (r1 : Rep X.K B1 v1 (.bl b'))
    exact ⟨b', rfl, h B1 al1 H1 e g wd1⟩
  · exact chain_run (Q := fun x H' => ∃ k, x = .bl k ∧ Q k H') hs hs' ha hb hc e1 wd rs h
end

/-! ### ''.join(xs) -/
def txts : List D → Option (List Str)
  | [] => some []
  | .str x :: r => (txts r).map (x :: ·)
  | _ :: _ => none
theorem txts_rep {K : PySem.W.Frag} {B : Hp} : ∀ {vs : List V} {ds : List D} {ys : List Str}, Reps K B vs ds → txts ds = some ys → vs = ys.map V.str
  | _, _, _, .nil, h => by cases h; rfl
  | _, _, _, .cons (d := d) r rs, h => by
    cases d with
    | str x =>
      obtain ⟨zs, h1, rfl⟩ := Option.map_eq_some_iff.mp (show (txts _).map (x :: ·) = some _ from h)
      cases r
      rw [txts_rep rs h1]; rfl
    | _ => cases h
def fJoin (a : Str) : D → Option D
  | .lst ds => (txts ds).bind fun ys => if (ys.map (·.length)).sum + ys.length * a.length ≤ LIM then some (.str (Txt.join a ys)) else none
  | .tup ds => (txts ds).bind fun ys => if (ys.map (·.length)).sum + ys.length * a.length ≤ LIM then some (.str (Txt.join a ys)) else none
  | _ => none
theorem se_join {X : Cx} {e : Expr} {me : EM} {a : Str} {ka : Nat} {pa apos pos : Pos} (he : SE X e me) (hs : starEach [e] X.env = [(false, eval e X.env)] := by rfl) (hbase : attributeBase (.Constant (.str a) ka pa) "join" X.env (eval (.Constant (.str a) ka pa) X.env) = eval (.Constant (.str a) ka pa) X.env := by rfl) (hline : (apos.endLine == pos.line) = true := by rfl) :
    SE X (.Call (.Attribute (.Constant (.str a) ka pa) "join" apos) [e] [] pos) (mUn (fJoin a) me) := by
  refine ⟨un_len he, fun ρ m o' m' q B al σ H Q wd rs h pins s I => (pe_join pe_str pe_w hs hbase hline).run pins s σ H Q I ⟨⟨a, rfl⟩, ?_⟩⟩
  refine he.seq q wd rs h.res fun y m2 q2 l2 B2 al2 v2 H2 x2 g2 wd2 r2 => ?_
  obtain ⟨dy, d, hy, hf, rfl, rfl⟩ := ap1_eq q2
  have v := wd2.view r2 hy
  have fin : ∀ {p : Addr} {vs : List V} {ds : List D}, v2 = .ref p → (SqL X.K H2 p vs ∨ SqT X.K H2 p vs) → Reps X.K B2 vs ds → ((txts ds).bind fun ys => if (ys.map (·.length)).sum + ys.length * a.length ≤ LIM then some (D.str (Txt.join a ys)) else none) = some d →
      ∃ a' p, ∃ ys : List Str, V.str a = .str a' ∧ [v2] = [.ref p] ∧ (SqL X.K H2 p (ys.map V.str) ∨ SqT X.K H2 p (ys.map V.str)) ∧ (ys.map (·.length)).sum + ys.length * a'.length ≤ 16777216 ∧ Q (.str (Txt.join a' ys)) H2 := by
    intro p vs ds ep hq rr hf'
    obtain ⟨ys, h1, h2⟩ := Option.bind_eq_some_iff.mp hf'
    split at h2
    · next hl =>
      cases h2
      have := txts_rep rr h1
      subst this
      exact ⟨a, p, ys, rfl, by rw [ep], hq, Nat.le_trans hl (by decide), h B2 al2 _ H2 x2 g2 wd2 (.str _)⟩
    · cases h2
  cases dy with
  | lst ds =>
    obtain ⟨p, vs, ep, hq, rr⟩ := v
    exact fin ep (.inl hq) rr hf
  | tup ds =>
    obtain ⟨p, vs, ep, hq, rr⟩ := v
    exact fin ep (.inr hq.1) rr hf
  | _ => cases hf
end Dm
/-! Dm, part 12: displays of dicts, names of built-in types, methods of lists. -/
namespace Dm
open PySem PySem.Spec PyProof.Rows L2
open Evl (Ex)
/-! ### {}, {k: v, ..} -/
section
variable {X : Cx}
theorem se_dct0 {pos : Pos} : SE X (.Dict [] [] pos) (mC (.dct [])) := by
  refine ⟨fun ρ m o m' q => by cases q; exact Nat.le_refl _, fun ρ m o m' q B al σ H Q wd rs h pins s I => pe_dnewK.run pins s σ H Q I fun p hp => ?_⟩
  cases q
  have g := Gr.lay (o := .dK []) wd.ext hp
  exact h _ al _ _ g.b Agr.refl (wd.grow g) (.dct (.inl upd_same) .nil)
def mDct0H : EM := fun _ m => ret (.hdl m.length) (m ++ [.dct []])
theorem se_dct0H {pos : Pos} : SE X (.Dict [] [] pos) mDct0H := by
  refine ⟨fun ρ m o m' q => by cases q; simp, fun ρ m o m' q B al σ H Q wd rs h pins s I => pe_dnewK.run pins s σ H Q I fun p hp => ?_⟩
  cases q
  obtain ⟨w2, a2⟩ := wd.alloc (o := .dK []) (c := .dct []) hp (.inl ⟨[], upd_same, .nil⟩)
  exact h B _ _ _ (Ex.refl B) a2 w2 ⟨by rw [alx_here], by simp⟩
def mPairs : List (EM × EM) → Slots → Mem → Option (List (D × D) × Mem)
  | [], _, m => some ([], m)
  | (mk, mv) :: r, ρ, m => match mk ρ m with
    | some (.ok (.dat k), m1) => (match mv ρ m1 with
      | some (.ok (.dat v), m2) => (match mPairs r ρ m2 with
        | some (ps, m3) => some ((k, v) :: ps, m3)
        | none => none)
      | _ => none)
    | _ => none
inductive RepP (K : PySem.W.Frag) (B : Hp) : List (V × V) → List (D × D) → Prop
  | nil : RepP K B [] []
  | cons {k v dk dv r es} : Rep K B k dk → Rep K B v dv → RepP K B r es → RepP K B ((k, v) :: r) ((dk, dv) :: es)
structure SPs (X : Cx) (pos : Pos) (keys : List (Option Expr)) (values : List Expr) (ms : List (EM × EM)) : Prop where
  ex : ∃ trs, PPs X pos keys values trs ∧ (∀ ρ m ps m', mPairs ms ρ m = some (ps, m') → m.length ≤ m'.length) ∧
    ∀ ρ m ps m', mPairs ms ρ m = some (ps, m') → ∀ B al σ H Q, Wd X.K B al m H → RepS X.K B al m.length σ ρ →
      (∀ B' al' xs H', Ex B B' → Agr m.length al al' → Wd X.K B' al' m' H' → RepP X.K B' xs ps → Q xs H') → tPairs trs σ H Q
theorem sps_nil {pos : Pos} : SPs X pos [] [] [] := ⟨[], pps_nil, fun ρ m ps m' q => by cases q; exact Nat.le_refl _, fun ρ m ps m' q B al σ H Q wd rs h => by
  cases q
  exact h B al [] H (Ex.refl B) Agr.refl wd .nil⟩
theorem RepP.mono {K : PySem.W.Frag} {B B' : Hp} (e : Ex B B') : ∀ {xs : List (V × V)} {ps : List (D × D)}, RepP K B xs ps → RepP K B' xs ps
  | _, _, .nil => .nil
  | _, _, .cons a b r => .cons (a.mono e) (b.mono e) (RepP.mono e r)
theorem sps_cons {pos : Pos} {k v : Expr} {ks : List (Option Expr)} {vs : List Expr} {mk mv : EM} {ms : List (EM × EM)} (hk : SE X k mk) (hv : SE X v mv) (hr : SPs X pos ks vs ms) : SPs X pos (some k :: ks) (v :: vs) ((mk, mv) :: ms) := by
  obtain ⟨trs, pp, ln, run⟩ := hr.ex
  have inv : ∀ {ρ : Slots} {m m' : Mem} {ps : List (D × D)}, mPairs ((mk, mv) :: ms) ρ m = some (ps, m') → ∃ k m1 v m2 r, mk ρ m = some (.ok (.dat k), m1) ∧ mv ρ m1 = some (.ok (.dat v), m2) ∧ mPairs ms ρ m2 = some (r, m') ∧ ps = (k, v) :: r := fun {ρ m m' ps} q => by
    unfold mPairs at q
    split at q
    · next k m1 e1 =>
      split at q
      · next v m2 e2 =>
        split at q
        · next r m3 e3 => cases q; exact ⟨k, m1, v, m2, r, e1, e2, e3, rfl⟩
        · cases q
      · cases q
    · cases q
  refine ⟨_, pps_cons (pe_w (X := X)) (pe_w (X := X)) pp, fun ρ m ps m' q => ?_, fun ρ m ps m' q B al σ H Q wd rs h => ?_⟩
  · obtain ⟨k, m1, v, m2, r, e1, e2, e3, rfl⟩ := inv q
    exact Nat.le_trans (hk.len _ _ _ _ e1) (Nat.le_trans (hv.len _ _ _ _ e2) (ln _ _ _ _ e3))
  · obtain ⟨k, m1, v, m2, r, e1, e2, e3, rfl⟩ := inv q
    have l1 := hk.len _ _ _ _ e1
    have l2 := hv.len _ _ _ _ e2
    refine hk.run _ _ _ _ e1 B al σ H _ wd rs fun B1 al1 x H1 x1 g1 wd1 r1 => ?_
    refine hv.run _ _ _ _ e2 B1 al1 σ H1 _ wd1 (rs.mono x1 g1 l1) fun B2 al2 y H2 x2 g2 wd2 r2 => ?_
    refine run _ _ _ _ e3 B2 al2 σ H2 _ wd2 ((rs.mono x1 g1 l1).mono x2 g2 l2) fun B3 al3 xs H3 x3 g3 wd3 r3 => ?_
    exact h B3 al3 _ H3 ((x1.trans x2).trans x3) ((g1.trans g2 l1).trans g3 (Nat.le_trans l1 l2)) wd3 (.cons (Rep.mono (x2.trans x3) r1) (Rep.mono x3 r2) r3)
/-- the pairs put in, in turn -/
def dMerge (ps : List (D × D)) : List (D × D) := ps.foldl (fun acc e => match keyD e.1 with
  | some k => dPut acc k e.2
  | none => acc) []
theorem repP_keys {K : PySem.W.Frag} {B : Hp} : ∀ {xs : List (V × V)} {ps : List (D × D)}, RepP K B xs ps → ps.all (fun e => isKD e.1) = true → ∃ kvs : List (Key × V), xs = kvs.map (fun kv => (kV kv.1, kv.2)) ∧ kvs.length = ps.length ∧
    ∀ (acc : List (Key × V)) (da : List (D × D)), RepK K B acc da → RepK K B (kvs.foldl (fun acc kv => putK acc kv.1 kv.2) acc) (ps.foldl (fun acc e => match keyD e.1 with
      | some k => dPut acc k e.2
      | none => acc) da)
  | _, _, .nil, _ => ⟨[], rfl, rfl, fun _ _ h => h⟩
  | _, _, .cons (k := k) (v := v) (dk := dk) (dv := dv) (es := es) a b r, h => by
    rw [List.all_cons, Bool.and_eq_true] at h
    obtain ⟨kvs, e1, e2, e3⟩ := repP_keys r h.2
    have hk : ∃ kk, keyD dk = some kk := by
      cases dk with
      | int i => exact ⟨_, rfl⟩
      | str i => exact ⟨_, rfl⟩
      | _ => cases h.1
    obtain ⟨kk, hk⟩ := hk
    refine ⟨(kk, v) :: kvs, by rw [List.map_cons, ← e1, keyD_val hk a], congrArg (· + 1) e2, fun acc da h => ?_⟩
    rw [List.foldl_cons, List.foldl_cons]
    have : (match keyD (dk, dv).1 with
      | some k => dPut da k (dk, dv).2
      | none => da) = dPut da kk dv := by rw [show keyD (dk, dv).1 = some kk from hk]
    rw [this]
    exact e3 _ _ (dPut_rep b h)
def mDct (ms : List (EM × EM)) : EM := fun ρ m => match mPairs ms ρ m with
  | some (ps, m1) => if ps.all (fun e => isKD e.1) = true ∧ ps.length ≤ 15 then rd (.dct (dMerge ps)) m1 else none
  | none => none
def mDctH (ms : List (EM × EM)) : EM := fun ρ m => match mPairs ms ρ m with
  | some (ps, m1) => if ps.all (fun e => isKD e.1) = true ∧ ps.length ≤ 15 then ret (.hdl m1.length) (m1 ++ [.dct (dMerge ps)]) else none
  | none => none
theorem disp_run {pos : Pos} {keys : List (Option Expr)} {values : List Expr} {ms : List (EM × EM)} (h : SPs X pos keys values ms) (hall : keys.all (·.isSome) = true) (hl : keys.length = values.length) (h0 : keys ≠ []) (h15 : keys.length ≤ 15)
    {ρ : Slots} {m m1 : Mem} {ps : List (D × D)} (q : mPairs ms ρ m = some (ps, m1)) (hk : ps.all (fun e => isKD e.1) = true ∧ ps.length ≤ 15) {B : Hp} {al : Pl} {σ : L2.St} {H : Hp} {Q : VK} (wd : Wd X.K B al m H) (rs : RepS X.K B al m.length σ ρ)
    (fin : ∀ B' al' p H' kvs, Ex B B' → Agr m.length al al' → Wd X.K B' al' m1 H' → B' p = none → al'.fr p = none → (∀ j c, m1[j]? = some c → c.isDead = false → al' j ≠ p) → H' p = some (.dK kvs) → RepK X.K B' kvs (dMerge ps) → Q (.ref p) H') : wE X (.Dict keys values pos) σ H Q := fun pins s I => by
  obtain ⟨trs, pp, ln, run⟩ := h.ex
  refine (pe_disp pp hall hl h0 h15).run pins s σ H Q I fun p hp => ?_
  have hb : B p = none := by
    cases e : B p with
    | none => rfl
    | some u => rw [wd.ext p u e] at hp; cases hp
  have hf : al.fr p = none := by
    cases e : al.fr p with
    | none => rfl
    | some u => rw [wd.fx p u e] at hp; cases hp
  have wd0 := (wd.grow (Gr.by (o := .dK []) wd.ext hp)).hide (p := p) (o := .dK []) upd_same hb fun j c e hd => wd.notNew hp e hd
  refine run ρ m ps m1 q B _ σ _ _ wd0 (RepS.mono (al := al) (Ex.refl B) ⟨fun _ _ => rfl, rfl⟩ (Nat.le_refl _) (by
    refine ⟨rs.1, fun i w hw => ?_⟩
    obtain ⟨v, h1, h2⟩ := rs.2 i w hw
    exact ⟨v, h1, by cases w with | dat d => exact h2 | hdl k => exact h2⟩)) fun B2 al2 xs H2 x2 g2 wd2 r2 => ?_
  obtain ⟨kvs, e1, e2, e3⟩ := repP_keys r2 hk.1
  obtain ⟨w3, b3, h3, n3⟩ := wd2.unhide (o' := .dK (mergeK [] kvs)) g2.fr hf
  exact ⟨h3, kvs, e1, by rw [e2]; exact hk.2, fin B2 ⟨al2.at_, al.fr⟩ p _ _ x2 ⟨g2.at_, rfl⟩ w3 b3 hf n3 upd_same (e3 [] [] .nil)⟩
theorem se_dct {pos : Pos} {keys : List (Option Expr)} {values : List Expr} {ms : List (EM × EM)} (h : SPs X pos keys values ms) (hall : keys.all (·.isSome) = true := by rfl) (hl : keys.length = values.length := by rfl) (h0 : keys ≠ [] := by intro z; cases z) (h15 : keys.length ≤ 15 := by decide) :
    SE X (.Dict keys values pos) (mDct ms) := by
  have inv : ∀ {ρ : Slots} {m m' : Mem} {o : Out W}, mDct ms ρ m = some (o, m') → ∃ ps, mPairs ms ρ m = some (ps, m') ∧ (ps.all (fun e => isKD e.1) = true ∧ ps.length ≤ 15) ∧ o = .ok (.dat (.dct (dMerge ps))) := fun {ρ m m' o} q => by
    unfold mDct at q
    split at q
    · next ps m1 e =>
      split at q
      · next hc => cases q; exact ⟨ps, e, hc, rfl⟩
      · cases q
    · cases q
  refine ⟨fun ρ m o m' q => ?_, fun ρ m o m' q B al σ H Q wd rs ha => ?_⟩
  · obtain ⟨ps, e, _, _⟩ := inv q
    obtain ⟨_, _, ln, _⟩ := h.ex
    exact ln _ _ _ _ e
  · obtain ⟨ps, e, hk, rfl⟩ := inv q
    refine disp_run h hall hl h0 h15 e hk wd rs fun B' al' p H' kvs x g w hb hf nc hp r => ?_
    obtain ⟨w2, x2⟩ := w.freeze hp hb hf nc
    exact ha _ al' _ H' (x.trans x2) g w2 (.dct (.inl upd_same) (r.mono x2))
theorem se_dctH {pos : Pos} {keys : List (Option Expr)} {values : List Expr} {ms : List (EM × EM)} (h : SPs X pos keys values ms) (hall : keys.all (·.isSome) = true := by rfl) (hl : keys.length = values.length := by rfl) (h0 : keys ≠ [] := by intro z; cases z) (h15 : keys.length ≤ 15 := by decide) :
    SE X (.Dict keys values pos) (mDctH ms) := by
  have inv : ∀ {ρ : Slots} {m m' : Mem} {o : Out W}, mDctH ms ρ m = some (o, m') → ∃ ps m1, mPairs ms ρ m = some (ps, m1) ∧ (ps.all (fun e => isKD e.1) = true ∧ ps.length ≤ 15) ∧ o = .ok (.hdl m1.length) ∧ m' = m1 ++ [.dct (dMerge ps)] := fun {ρ m m' o} q => by
    unfold mDctH at q
    split at q
    · next ps m1 e =>
      split at q
      · next hc => cases q; exact ⟨ps, m1, e, hc, rfl, rfl⟩
      · cases q
    · cases q
  refine ⟨fun ρ m o m' q => ?_, fun ρ m o m' q B al σ H Q wd rs ha => ?_⟩
  · obtain ⟨ps, m1, e, _, _, rfl⟩ := inv q
    obtain ⟨_, _, ln, _⟩ := h.ex
    have := ln _ _ _ _ e
    rw [List.length_append]; omega
  · obtain ⟨ps, m1, e, hk, rfl, rfl⟩ := inv q
    refine disp_run h hall hl h0 h15 e hk wd rs fun B' al' p H' kvs x g w hb hf nc hp r => ?_
    have ln : m.length ≤ m1.length := let ⟨_, _, ln, _⟩ := h.ex; ln _ _ _ _ e
    have w2 : Wd X.K B' (alx al' m1.length p) (m1 ++ [.dct (dMerge ps)]) H' := by
      refine ⟨w.ext, fun k c' e hd => ?_, fun j k c1 c2 e1 e2 hd1 hd2 hjk => ?_, w.fx, w.fb, fun k c' e hd => ?_⟩
      · rcases snoc_get e with ⟨hk, e'⟩ | ⟨rfl, rfl⟩
        · rw [alx_old hk]; exact w.cell k c' e' hd
        · rw [alx_here]; exact ⟨hb, .inl ⟨kvs, hp, r⟩⟩
      · rcases snoc_get e1 with ⟨hj, e1'⟩ | ⟨rfl, rfl⟩ <;> rcases snoc_get e2 with ⟨hk, e2'⟩ | ⟨rfl, rfl⟩
        · rw [alx_old hj, alx_old hk] at hjk
          exact w.inj j k c1 c2 e1' e2' hd1 hd2 hjk
        · rw [alx_old hj, alx_here] at hjk
          exact absurd hjk (nc j c1 e1' hd1)
        · rw [alx_old hk, alx_here] at hjk
          exact absurd hjk.symm (nc k c2 e2' hd2)
        · rfl
      · rcases snoc_get e with ⟨hk, e'⟩ | ⟨rfl, rfl⟩
        · rw [alx_old hk]; exact w.fc k c' e' hd
        · rw [alx_here]; exact hf
    exact ha B' _ _ H' x (g.trans ⟨fun k hk => alx_old hk, rfl⟩ ln) w2 ⟨by rw [alx_here], by simp⟩
/-- a built-in type by its name -/
theorem se_bty {x : Str} {T : String} {pos : Pos} (hg : Gl X x) (hm : X.mg x = none) (hv : bootBuiltins x = some (.type T)) (hn : x ≠ "__name__" := by decide) (hd : (x == ("__debug__" : Str)) = false := by decide) : SE X (.Name x pos) (mC (.ty T)) :=
  .ofC (pe_bltn (v := .ty T) hg hm hv rfl hn hd) fun _ => .ty T
end
end Dm
/-! Dm, part 13: the walk's short words. -/
namespace Dm
open PySem PySem.Spec PyProof.Rows L2
open Evl (Ex)
section
variable {X : Cx} {N : List Str} {sc : Scope} {k : Nat} {fn : Str → Bool}
theorem Good.rm (g : Good X N sc k fn) : Rm X := ⟨by have := g.room.un; omega, g.sm, g.gd, g.calm⟩
theorem Good.gl (g : Good X N sc k fn) {x : Str} (h : sc.names.lookup x = some .globalImplicit) : Gl X x := by
  show X.env.scope.names.lookup x = _
  rw [g.sc]; exact h
def visB (sc : Scope) (x : Str) : Bool := match sc.names.lookup x with
  | some .local => true
  | some .cell => true
  | some .free => true
  | _ => false
def locB (sc : Scope) (x : Str) : Bool := match sc.names.lookup x with
  | some .local => true
  | some .cell => true
  | _ => false
theorem vis_of {sc : Scope} {x : Str} (h : visB sc x = true) : Vis sc x := by
  unfold visB at h
  split at h
  · next e => exact .inl e
  · next e => exact .inr (.inl e)
  · next e => exact .inr (.inr e)
  · cases h
theorem loc_of {sc : Scope} {x : Str} (h : locB sc x = true) : Loc sc x := by
  unfold locB at h
  split at h
  · next e => exact .inl e
  · next e => exact .inr e
  · cases h
/-- a name of the scope, at its slot, and no word of the machine's own -/
def vB (N : List Str) (sc : Scope) (i : Nat) (x : Str) : Bool := decide (N[i]? = some x) && visB sc x && !(x == ("__debug__" : Str)) && !(x == ("__classdict__" : Str))
theorem Good.v (g : Good X N sc k fn) (i : Nat) {x : Str} {pos : Pos} (h : vB N sc i x = true) : SE X (.Name x pos) (mVar i) := by
  unfold vB at h
  rw [Bool.and_eq_true, Bool.and_eq_true, Bool.and_eq_true, Bool.not_eq_true', Bool.not_eq_true'] at h
  exact se_var i (by rw [g.N]; exact of_decide_eq_true h.1.1.1) (by rw [g.sc]; exact vis_of h.1.1.2) h.1.2 h.2
theorem Good.fnl (g : Good X N sc k fn) {x : Str} (h : fn x = true ∨ sc.names.lookup x = some .local) : X.fn x = true ∨ X.env.scope.names.lookup x = some .local := by
  rw [g.fn, g.sc]; exact h
theorem Good.tg (g : Good X N sc k fn) (i : Nat) {x : Str} {pos : Pos} (hN : N[i]? = some x) (hl : locB sc x = true) (hf : fn x = true ∨ sc.names.lookup x = some .local) : SG X (.Name x pos) (gSet i) :=
  sg_name i g.nd (by rw [g.N]; exact hN) (by rw [g.sc]; exact loc_of hl) (g.fnl hf)
theorem by_sc {env : Env} {sc : Scope} (e : env.scope = sc) : env = { env with scope := sc } := by
  cases env; subst e; rfl
theorem Good.sw1 (g : Good X N sc k fn) {ts : List Expr} {v : Expr} {l : Nat} {r : Sem Bool} (h : ∀ env : Env, swapsWithSole ts v l { env with scope := sc } = r) : swapsWithSole ts v l X.env = r := by
  rw [by_sc g.sc]; exact h _
theorem Good.sw2 (g : Good X N sc k fn) {ts : List Expr} {v : Expr} {r : Sem (Option (List Str))} (h : ∀ env : Env, swappedStores ts v { env with scope := sc } = r) : swappedStores ts v X.env = r := by
  rw [by_sc g.sc]; exact h _
theorem Good.sw3 (g : Good X N sc k fn) {v : Expr} {t : Option Expr} {l : Nat} {r : Sem Bool} (h : ∀ env : Env, swapsWith v t l { env with scope := sc } = r) : swapsWith v t l X.env = r := by
  rw [by_sc g.sc]; exact h _
theorem Good.set (g : Good X N sc k fn) (i : Nat) {x : Str} {e : Expr} {me : EM} {pos pos' : Pos} (he : SE X e me) (hN : N[i]? = some x) (hl : locB sc x = true) (hf : fn x = true ∨ sc.names.lookup x = some .local) (hs : ∀ env : Env, swapsWith e (some (.Name x pos')) pos.line { env with scope := sc } = pure false) :
    SS X (.Assign [.Name x pos'] e pos) (sSet i me) :=
  ss_set i g.nd (by rw [g.N]; exact hN) (by rw [g.sc]; exact loc_of hl) he (g.sw3 hs) (g.fnl hf)
theorem Good.asg (g : Good X N sc k fn) {tg e : Expr} {me : EM} {mg : GM} {pos : Pos} (he : SE X e me) (hg : SG X tg mg) (hs : ∀ env : Env, swapsWithSole [tg] e pos.line { env with scope := sc } = pure false) (hw : ∀ env : Env, swappedStores [tg] e { env with scope := sc } = pure none) (hn : noStar tg = true := by rfl) :
    SS X (.Assign [tg] e pos) (sAsg me mg) := ss_asg he hg (g.sw1 hs) (g.sw2 hw) hn
theorem Good.expr (g : Good X N sc k fn) {e : Expr} {me : EM} {pos : Pos} (he : SE X e me) (hs : ∀ env : Env, swapsWith e none pos.line { env with scope := sc } = pure false) : SS X (.Expr e pos) (sDrop me) := ss_expr he (g.sw3 hs)
theorem Good.par (g : Good X N sc k fn) (i j : Nat) {x y : Str} {a b : Expr} {ma : AM} {px py pt pos : Pos} {kt k2 : Nat} {pt2 : Pos} (ha : SA X [a, b] ma) (hi : N[i]? = some x) (hj : N[j]? = some y) (hij : i ≠ j) (hx : sc.names.lookup x = some .local) (hy : sc.names.lookup y = some .local)
    (hw : ∀ env : Env, swappedStores [.Tuple [.Name x px, .Name y py] kt pt] (.Tuple [a, b] k2 pt2) { env with scope := sc } = pure (some [x, y])) (hs : ∀ env : Env, swapsWithSole [.Tuple [.Name x px, .Name y py] kt pt] (.Tuple [a, b] k2 pt2) pos.line { env with scope := sc } = pure false) :
    SS X (.Assign [.Tuple [.Name x px, .Name y py] kt pt] (.Tuple [a, b] k2 pt2) pos) (sPar i j ma) :=
  ss_par i j g.calm g.nd (by rw [g.N]; exact hi) (by rw [g.N]; exact hj) hij (by rw [g.sc]; exact hx) (by rw [g.sc]; exact hy) ha (g.sw2 hw) (g.sw1 hs)
/-- calls of defs -/
theorem Good.callP (g : Good X N sc k fn) {x : Str} {j : Nat} {ps : List Str} {mf : FM} {e : Expr} {es : List Expr} {ma : AM} {p pos : Pos} (F : DefOk X.prog X.w X.K X.mg X.base x j ps mf) (hj : Nat.ble j k = true) (hg : sc.names.lookup x = some .globalImplicit) (hm : X.mg x = some (.ref (He.ga X.K x)))
    (ha : SA X (e :: es) ma) (h0 : noStar e = true := by rfl) (h1 : es.all noStar = true := by rfl) (hdb : (x == ("__debug__" : Str)) = false := by decide) : SE X (.Call (.Name x p) (e :: es) [] pos) (mDef ps.length 0 (fun ws _ => ws) mf ma mNil) :=
  se_callP F (Nat.le_of_ble_eq_true hj) g.room g.gd (g.gl hg) hm ha h0 h1 hdb
theorem Good.callP0 (g : Good X N sc k fn) {x : Str} {j : Nat} {mf : FM} {p pos : Pos} (F : DefOk X.prog X.w X.K X.mg X.base x j [] mf) (hj : Nat.ble j k = true) (hg : sc.names.lookup x = some .globalImplicit) (hm : X.mg x = some (.ref (He.ga X.K x)))
    (hdb : (x == ("__debug__" : Str)) = false := by decide) : SE X (.Call (.Name x p) [] [] pos) (mDef 0 0 (fun ws _ => ws) mf mNil mNil) := se_callP0 F (Nat.le_of_ble_eq_true hj) g.room g.gd (g.gl hg) hm hdb
theorem Good.callN (g : Good X N sc k fn) {x : Str} {j n : Nat} {ps ks : List Str} {mf : FM} {gW : List W → List W → List W} {e : Expr} {es : List Expr} {kws : List Keyword} {ma mk : AM} {p pos : Pos} (F : DefKw X.prog X.w X.K X.mg X.base x j ps mf n ks gW) (hj : Nat.ble j k = true) (hg : sc.names.lookup x = some .globalImplicit) (hm : X.mg x = some (.ref (He.ga X.K x)))
    (ha : SA X (e :: es) ma) (hw : SK X kws mk) (hall : (kws.map (·.arg)).all (·.isSome) = true := by rfl) (hks : (kws.map (·.arg)).filterMap id = ks := by rfl) (h0 : noStar e = true := by rfl) (h1 : es.all noStar = true := by rfl) (hdb : (x == ("__debug__" : Str)) = false := by decide) :
    SE X (.Call (.Name x p) (e :: es) kws pos) (mDef n ks.length gW mf ma mk) := se_callN F (Nat.le_of_ble_eq_true hj) g.room g.gd (g.gl hg) hm ha hw hall hks h0 h1 hdb
theorem Good.callN0 (g : Good X N sc k fn) {x : Str} {j : Nat} {ps ks : List Str} {mf : FM} {gW : List W → List W → List W} {kws : List Keyword} {mk : AM} {p pos : Pos} (F : DefKw X.prog X.w X.K X.mg X.base x j ps mf 0 ks gW) (hj : Nat.ble j k = true) (hg : sc.names.lookup x = some .globalImplicit) (hm : X.mg x = some (.ref (He.ga X.K x)))
    (hw : SK X kws mk) (hall : (kws.map (·.arg)).all (·.isSome) = true := by rfl) (hks : (kws.map (·.arg)).filterMap id = ks := by rfl) (hdb : (x == ("__debug__" : Str)) = false := by decide) :
    SE X (.Call (.Name x p) [] kws pos) (mDef 0 ks.length gW mf mNil mk) := se_callN0 F (Nat.le_of_ble_eq_true hj) g.room g.gd (g.gl hg) hm hw hall hks hdb
variable {tg iter elt : Expr} {ifs : List Expr} {mi : IM} {t : CT} {tt : TM} {te : EM} {scope : Scope} {own : List (Str × Nat)} {pos : Pos}
/-- a comprehension's target -/
theorem Good.ct1 (g : Good X N sc k fn) {K : PySem.W.Frag} (i : Nat) {x : Str} {p : Pos} (hN : N[i]? = some x) (hl : locB sc x = true) (hf : fn x = true ∨ sc.names.lookup x = some .local) : PG X (.Name x p) ((CT.one i).g K) :=
  pg_name g.nd (by rw [g.N]; exact hN) (by rw [g.sc]; exact loc_of hl) (g.fnl hf)
abbrev gNs (is : List Nat) : TGs := is.foldr (fun i t => gCons (gName i) t) gNil
theorem Good.cts0 (g : Good X N sc k fn) : PGs X [] (gNs []) := pgs_nil
theorem Good.cts (g : Good X N sc k fn) (i : Nat) {x : Str} {p : Pos} {es : List Expr} {is : List Nat} (hN : N[i]? = some x) (hl : locB sc x = true) (hf : fn x = true ∨ sc.names.lookup x = some .local) (h : PGs X es (gNs is)) : PGs X (.Name x p :: es) (gNs (i :: is)) :=
  pgs_cons (g.ct1 (K := X.K) i hN hl hf) h (assignEach_cons rfl)
theorem Good.ctT (g : Good X N sc k fn) {es : List Expr} {is : List Nat} {kk : Nat} {p : Pos} (h : PGs X es (gNs is)) (hl : es.length = is.length := by rfl) (hs : es.all noStar = true := by rfl) : PG X (.Tuple es kk p) ((CT.tup is).g X.K) :=
  pg_tup g.calm h (assignEach_len.trans hl) (assignEach_star hs)
/-- [elt for tg in iter if ..] -/
theorem Good.lc (g : Good X N sc k fn) (own : List (Str × Nat)) (t : CT) (hi : SI X tg iter mi) (ok : BlkOk N sc scope own)
    (hg : ∀ (s : Shared) (H : Hp) (C : Addr) (cl : List (Str × Addr)) (fp : List Addr), Good (X.blk s H scope (compEnvC scope cl C X.env) fp) N (relS scope sc) k (fun x => scope.names.lookup x == some .cell) →
      PG (X.blk s H scope (compEnvC scope cl C X.env) fp) tg (t.g X.K) ∧ STs (X.blk s H scope (compEnvC scope cl C X.env) fp) ifs tt ∧ SE (X.blk s H scope (compEnvC scope cl C X.env) fp) elt te)
    (ho : t.ok (own.map (·.2)) = true) (hs : ∀ env x, foldedSetIterable iter env x = pure x) : SE X (.ListComp elt [⟨tg, iter, ifs, 0⟩] scope pos) (mLc mi t tt te (own.map (·.2))) :=
  se_lc g.calm g.nd hi (by rw [g.N, g.sc]; exact ok) (fun s H C cl fp => (hg s H C cl fp (g.blk scope s H C cl fp)).1)
    ⟨fun s H C cl fp => (hg s H C cl fp (g.blk scope s H C cl fp)).2.1, fun s H C cl fp => (hg s H C cl fp (g.blk scope s H C cl fp)).2.2⟩ ho (hs _)
theorem Good.setLc (g : Good X N sc k fn) (i : Nat) {y : Str} {py spos : Pos} (own : List (Str × Nat)) (t : CT) (hN : N[i]? = some y) (hyl : sc.names.lookup y = some .local) (hi : SI X tg iter mi) (ok : BlkOk N sc scope own)
    (hg : ∀ (s : Shared) (H : Hp) (C : Addr) (cl : List (Str × Addr)) (fp : List Addr), Good (X.blk s H scope (compEnvC scope cl C X.env) fp) N (relS scope sc) k (fun x => scope.names.lookup x == some .cell) →
      PG (X.blk s H scope (compEnvC scope cl C X.env) fp) tg (t.g X.K) ∧ STs (X.blk s H scope (compEnvC scope cl C X.env) fp) ifs tt ∧ SE (X.blk s H scope (compEnvC scope cl C X.env) fp) elt te)
    (ho : t.ok (own.map (·.2)) = true) (hs : ∀ env x, foldedSetIterable iter env x = pure x)
    (hk : sc.kind = .function) (hl : (py.line == pos.line) = true) (ha : (scope.names.any fun (n, k) => n == y && (k == .local || k == .cell)) = false) :
    SS X (.Assign [.Name y py] (.ListComp elt [⟨tg, iter, ifs, 0⟩] scope pos) spos) (sSet i (mLc mi t tt te (own.map (·.2)))) :=
  ss_setLc i g.calm g.nd (by rw [g.N]; exact hN) (by rw [g.sc]; exact hyl) (sw_true (by rw [g.sc]; exact hk) (by rw [g.sc]; exact hyl) hl ha) hi (by rw [g.N, g.sc]; exact ok)
    (fun s H C cl fp => (hg s H C cl fp (g.blk scope s H C cl fp)).1)
    ⟨fun s H C cl fp => (hg s H C cl fp (g.blk scope s H C cl fp)).2.1, fun s H C cl fp => (hg s H C cl fp (g.blk scope s H C cl fp)).2.2⟩ ho (hs _)
end
/-! ### a def keeps its mirror -/
theorem goodF_cx {P : Program} {w : World} {K : PySem.W.Frag} {mg : Str → Option Value} {bs : Heap} {qual : Str} {sc : Scope} {f : Addr} {cdv : Value} {N ps : List Str} {k : Nat} {A : Around} {fr : List Env} {s : Shared} {H : Hp} {E : XK}
    (hG : A.guards = some []) (rm : Room k (A.deeper (envOfC qual sc s.heap.objs.size f cdv))) (S : FnScope N ps sc) (hsm : ∃ mm, bs.Ns sysModules mm) : GoodF (cxOf (L2.CX P w) P w K mg bs N qual sc f cdv A fr s H E) N sc k := by
  have hx : Takes (cxOf (L2.CX P w) P w K mg bs N qual sc f cdv A fr s H E) (fun cls d _ H => E cls d H) := takes_of rfl rfl rfl rfl
  exact ⟨⟨rfl, rfl, rm, hG, rfl, rfl, S.nd, hsm⟩, passes_of rfl, ⟨E, hx⟩, rfl, rfl⟩
theorem defOk_of {P : Program} {w : World} {K : PySem.W.Frag} {mg : Str → Option Value} {bs : Heap} {x qual : Str} {params : Arguments} {bd : List Stmt} {sc : Scope} {dvs : List V} {kws : List (Str × V)} {N ps : List Str} {k : Nat} {body : SM} {n : Nat} {ks : List Str} {gW : List W → List W → List W}
    (F : ∃ fd, FunD K x qual params bd sc dvs kws (He.ga K x) fd) (S : FnScope N ps sc) (hsm : ∃ mm, bs.Ns sysModules mm) (rm : Room (k + 1) callerA) (hb : ∀ X : Cx, X.prog = P → X.w = w → X.K = K → X.mg = mg → X.base = bs → GoodF X N sc k → SSs X bd body)
    (hB : ∀ fd, FunD K x qual params bd sc dvs kws (He.ga K x) fd → Bdg K fd ps n ks gW) : DefKw P w K mg bs x (k + 1) ps (mFn N body) n ks gW := by
  obtain ⟨fd, F⟩ := F
  refine ⟨⟨fd, def_fnG F S hsm hb, F.kp, hB fd F⟩, mFn_len ?_⟩
  have g : GoodF (cxOf (L2.CX P w) P w K mg bs N qual sc 0 .none callerA [] ⟨{}, #[], {}, 1, {}⟩ (fun _ => none) E0) N sc k := goodF_cx rfl (rm.deeper _) S hsm
  exact (hb _ rfl rfl rfl rfl rfl g).len
theorem DefKw.pos {P : Program} {w : World} {K : PySem.W.Frag} {mg : Str → Option Value} {bs : Heap} {x : Str} {k : Nat} {ps : List Str} {mf : FM} (h : DefKw P w K mg bs x k ps mf ps.length [] (fun ws _ => ws)) : DefOk P w K mg bs x k ps mf := ⟨h.ex, h.len⟩
/-! ### what the machine's own names are -/
theorem bt_int : bootBuiltins "int" = some (.type "int") := by decide +kernel
theorem bt_bool : bootBuiltins "bool" = some (.type "bool") := by decide +kernel
theorem bt_str : bootBuiltins "str" = some (.type "str") := by decide +kernel
theorem bt_list : bootBuiltins "list" = some (.type "list") := by decide +kernel
theorem bt_tuple : bootBuiltins "tuple" = some (.type "tuple") := by decide +kernel
theorem bt_dict : bootBuiltins "dict" = some (.type "dict") := by decide +kernel
theorem bt_set : bootBuiltins "set" = some (.type "set") := by decide +kernel
theorem bt_float : bootBuiltins "float" = some (.type "float") := by decide +kernel
theorem bt_len : bootBuiltins "len" = some (.builtin "len") := by decide +kernel
theorem bt_abs : bootBuiltins "abs" = some (.builtin "abs") := by decide +kernel
theorem bt_max : bootBuiltins "max" = some (.builtin "max") := by decide +kernel
theorem bt_min : bootBuiltins "min" = some (.builtin "min") := by decide +kernel
theorem bt_all : bootBuiltins "all" = some (.builtin "all") := by decide +kernel
theorem bt_any : bootBuiltins "any" = some (.builtin "any") := by decide +kernel
theorem bt_divmod : bootBuiltins "divmod" = some (.builtin "divmod") := by decide +kernel
theorem bt_isinstance : bootBuiltins "isinstance" = some (.builtin "isinstance") := by decide +kernel
theorem bt_repr : bootBuiltins "repr" = some (.builtin "repr") := by decide +kernel
theorem bt_sorted : bootBuiltins "sorted" = some (.builtin "sorted") := by decide +kernel
theorem bt_sum : bootBuiltins "sum" = some (.builtin "sum") := by decide +kernel
end Dm
/-! Dm, part 14: what mirrors compute, by rewriting. -/
namespace Dm
open PySem PySem.Spec PyProof.Rows L2
section
variable {ρ : Slots} {m m' : Mem} {f : D → D → Option D} {h : D → Option D} {fl : List D → Option D} {ma mb mc me : EM} {mr mk : AM} {ta tb : TM} {a b : SM} {i j n : Nat} {d e : D} {w : W} {ws : List W} {ds : List D} {k : Nat}
@[simp] theorem view_dat : view m (.dat d) = some d := rfl
@[simp] theorem view_hdl : view m (.hdl k) = (m[k]?).bind Cell.d := rfl
@[simp] theorem cd_lst : Cell.d (.lst ds) = some (.lst ds) := rfl
@[simp] theorem cd_dct {es : List (D × D)} : Cell.d (.dct es) = some (.dct es) := rfl
@[simp] theorem cd_obj {c : Str} {fs : List (Str × D)} : Cell.d (.obj c fs) = some (.obj c fs) := rfl
@[simp] theorem rd_eq : rd d m = some (.ok (.dat d), m) := rfl
@[simp] theorem ret_eq {α : Type} (x : α) : Dm.ret x m = some (.ok x, m) := rfl
@[simp] theorem sbd_none {α : Type} (g : α → Mem → SR) : sbd none ρ g = none := rfl
@[simp] theorem mC_ap : mC d ρ m = some (.ok (.dat d), m) := rfl
theorem mVar_ap (hi : ρ[i]? = some (some w)) : mVar i ρ m = some (.ok w, m) := by unfold mVar; rw [hi]; rfl
@[simp] theorem mVar0 {r : Slots} : mVar 0 (some w :: r) m = some (.ok w, m) := rfl
@[simp] theorem mVarS {x : Option W} {r : Slots} : mVar (i + 1) (x :: r) m = mVar i r m := by unfold mVar; rw [List.getElem?_cons_succ]
@[simp] theorem mOp_ap : mOp f ma mb ρ m = bnd (ma ρ m) fun x m1 => bnd (mb ρ m1) fun y m2 => ap2 f x y m2 := rfl
@[simp] theorem ap2_ap {x y : W} : ap2 f x y m = (view m x).bind fun dx => (view m y).bind fun dy => (f dx dy).map fun d => (Out.ok (W.dat d), m) := by
  unfold ap2
  cases view m x with
  | none => rfl
  | some dx =>
    cases view m y with
    | none => rfl
    | some dy => dsimp; cases f dx dy <;> rfl
@[simp] theorem mUn_ap : mUn h ma ρ m = bnd (ma ρ m) fun x m1 => ap1 h x m1 := rfl
@[simp] theorem ap1_ap {x : W} : ap1 h x m = (view m x).bind fun dx => (h dx).map fun d => (Out.ok (W.dat d), m) := by
  unfold ap1
  cases view m x with
  | none => rfl
  | some dx => dsimp; cases h dx <;> rfl
@[simp] theorem mCa_ap : mCa fl mr ρ m = bnd (mr ρ m) fun ws m1 => apL fl ws m1 := rfl
@[simp] theorem apL_ap : apL fl ws m = (views m ws).bind fun ds => (fl ds).map fun d => (Out.ok (W.dat d), m) := by
  unfold apL
  cases views m ws with
  | none => rfl
  | some dx => dsimp; cases fl dx <;> rfl
@[simp] theorem views_nil : views m [] = some [] := rfl
@[simp] theorem views_cons : views m (w :: ws) = (view m w).bind fun d => (views m ws).map (d :: ·) := by
  show (match view m w, views m ws with
    | some d, some ds => some (d :: ds)
    | _, _ => none) = _
  cases view m w with
  | none => rfl
  | some dx => cases views m ws <;> rfl
@[simp] theorem mNil_ap : mNil ρ m = some (.ok [], m) := rfl
@[simp] theorem mCons_ap : mCons ma mr ρ m = bnd (ma ρ m) fun x m1 => bnd (mr ρ m1) fun xs m2 => some (.ok (x :: xs), m2) := rfl
@[simp] theorem dats_nil : dats [] = some [] := rfl
@[simp] theorem dats_dat : dats (.dat d :: ws) = (dats ws).map (d :: ·) := rfl
@[simp] theorem dats_hdl : dats (.hdl k :: ws) = none := rfl
@[simp] theorem mTup_ap : mTup mr ρ m = bnd (mr ρ m) fun ws m1 => (dats ws).bind fun ds => if ds.length ≤ LIM then some (.ok (.dat (.tup ds)), m1) else none := by
  unfold mTup; congr; funext ws m1; cases dats ws <;> rfl
@[simp] theorem mLst_ap : mLst mr ρ m = bnd (mr ρ m) fun ws m1 => (dats ws).bind fun ds => if ds.length ≤ LIM then some (.ok (.dat (.lst ds)), m1) else none := by
  unfold mLst; congr; funext ws m1; cases dats ws <;> rfl
@[simp] theorem mLstH_ap : mLstH mr ρ m = bnd (mr ρ m) fun ws m1 => (dats ws).bind fun ds => if ds.length ≤ LIM then some (.ok (.hdl m1.length), m1 ++ [.lst ds]) else none := by
  unfold mLstH; congr; funext ws m1; cases dats ws <;> rfl
@[simp] theorem LIM_eq : LIM = 1000000 := rfl
@[simp] theorem mTest_ap : mTest ma ρ m = bnd (ma ρ m) wBool := rfl
@[simp] theorem wBool_ap {b : Bool} : wBool (.dat (.bl b)) m = some (.ok b, m) := rfl
@[simp] theorem mNotT_ap : mNotT ta ρ m = bnd (ta ρ m) fun b m1 => some (.ok (!b), m1) := rfl
@[simp] theorem mAndT_ap : mAndT ta tb ρ m = bnd (ta ρ m) fun b m1 => match b with
  | true => tb ρ m1
  | false => some (.ok false, m1) := rfl
@[simp] theorem mOrT_ap : mOrT ta tb ρ m = bnd (ta ρ m) fun b m1 => match b with
  | true => some (.ok true, m1)
  | false => tb ρ m1 := rfl
@[simp] theorem mAnd_ap : mAnd ma mb ρ m = bnd (ma ρ m) fun x m1 => bnd (wBool x m1) fun b m2 => match b with
  | true => mb ρ m2
  | false => some (.ok (.dat (.bl false)), m2) := rfl
@[simp] theorem mOr_ap : mOr ma mb ρ m = bnd (ma ρ m) fun x m1 => bnd (wBool x m1) fun b m2 => match b with
  | true => some (.ok (.dat (.bl true)), m2)
  | false => mb ρ m2 := rfl
@[simp] theorem mIf_ap : mIf ta ma mb ρ m = bnd (ta ρ m) fun b m1 => match b with
  | true => ma ρ m1
  | false => mb ρ m1 := rfl
@[simp] theorem mChain_ap {g : D → D → Option D} : mChain f g ma mb mc ρ m = bnd (ma ρ m) fun x m1 => bnd (mb ρ m1) fun y m2 => bnd (ap2 f x y m2) fun w m3 => bnd (wBool w m3) fun b m4 => match b with
  | true => bnd (mc ρ m4) fun z m5 => ap2 g y z m5
  | false => some (.ok (.dat (.bl false)), m4) := rfl
/-- one statement behind another, by what the first one gave -/
def sThen (x : SR) (b : SM) : SR := match x with
  | some (.nx ρ1, m1) => b ρ1 m1
  | x => x
@[simp] theorem sSeq_ap : sSeq a b ρ m = sThen (a ρ m) b := rfl
@[simp] theorem sThen_nx : sThen (some (.nx ρ, m)) b = b ρ m := rfl
@[simp] theorem sThen_rt : sThen (some (.rt w, m)) b = some (.rt w, m) := rfl
@[simp] theorem sThen_bk : sThen (some (.bk ρ, m)) b = some (.bk ρ, m) := rfl
@[simp] theorem sThen_ct : sThen (some (.ct ρ, m)) b = some (.ct ρ, m) := rfl
@[simp] theorem sThen_ex {c : Str} {fs : List (Str × D)} : sThen (some (.ex c fs ρ, m)) b = some (.ex c fs ρ, m) := rfl
@[simp] theorem sThen_none : sThen none b = none := rfl
/-- the end of a def's body -/
def fEnd (x : SR) : Run W := match x with
  | some (.rt w, m1) => some (.ok w, m1)
  | some (.nx _, m1) => rd .non m1
  | some (.ex c fs _, m1) => some (.ex c fs, m1)
  | _ => none
theorem mFn_ap {N : List Str} {body : SM} : mFn N body ws m = fEnd (body (ws.map some ++ List.replicate (N.length - ws.length) none) m) := rfl
@[simp] theorem fEnd_rt : fEnd (some (.rt w, m)) = some (.ok w, m) := rfl
@[simp] theorem fEnd_nx : fEnd (some (.nx ρ, m)) = some (.ok (.dat .non), m) := rfl
@[simp] theorem fEnd_ex {c : Str} {fs : List (Str × D)} : fEnd (some (.ex c fs ρ, m)) = some (.ex c fs, m) := rfl
@[simp] theorem sNil_ap : sNil ρ m = some (.nx ρ, m) := rfl
@[simp] theorem sIf_ap : sIf ta a b ρ m = sbd (ta ρ m) ρ fun c m1 => match c with
  | true => a ρ m1
  | false => b ρ m1 := rfl
@[simp] theorem sSet_ap : sSet i me ρ m = sbd (me ρ m) ρ fun w m1 => some (.nx (ρ.set i (some w)), m1) := rfl
@[simp] theorem sRet_ap : sRet me ρ m = sbd (me ρ m) ρ fun w m1 => some (.rt w, m1) := rfl
@[simp] theorem sRetN_ap : sRetN ρ m = some (.rt (.dat .non), m) := rfl
@[simp] theorem sPass_ap : sPass ρ m = some (.nx ρ, m) := rfl
@[simp] theorem sCont_ap : sCont ρ m = some (.ct ρ, m) := rfl
@[simp] theorem sBreak_ap : sBreak ρ m = some (.bk ρ, m) := rfl
@[simp] theorem sDrop_ap : sDrop me ρ m = sbd (me ρ m) ρ fun _ m1 => some (.nx ρ, m1) := rfl
@[simp] theorem sAsg_ap {mg : GM} : sAsg me mg ρ m = sbd (me ρ m) ρ fun w m1 => mg w ρ m1 := rfl
@[simp] theorem sPar_ap : sPar i j mr ρ m = sbd (mr ρ m) ρ fun ws m1 => match ws with
  | [v, w] => some (.nx ((ρ.set i (some v)).set j (some w)), m1)
  | _ => none := rfl
@[simp] theorem gSet_ap : gSet i w ρ m = some (.nx (ρ.set i (some w)), m) := rfl
@[simp] theorem gNils_ap : gNils [] ρ m = some (.nx ρ, m) := rfl
@[simp] theorem gConss_ap {g : GM} {gs : List W → Slots → Mem → SR} : gConss g gs (w :: ws) ρ m = (match g w ρ m with
  | some (.nx ρ1, m1) => gs ws ρ1 m1
  | _ => none) := rfl
@[simp] theorem gTupM_ap {gs : List W → Slots → Mem → SR} : gTupM n gs (.dat (.tup ds)) ρ m = if ds.length = n then gs (ds.map .dat) ρ m else none := rfl
@[simp] theorem gIdx_ap {mo mi : EM} {v : D} : gIdx mo mi (.dat v) ρ m = (match mo ρ m with
  | some (.ok (.hdl k), m1) => (match mi ρ m1 with
    | some (.ok wi, m2) => (match view m2 wi, m2[k]? with
      | some di, some c => (match stC c di v with
        | some c' => some (.nx ρ, m2.set k c')
        | none => none)
      | _, _ => none)
    | _ => none)
  | _ => none) := rfl
@[simp] theorem stC_lst {i : Int} {v : D} : stC (.lst ds) (.int i) v = (ixN ds.length i).map fun j => .lst (ds.set j v) := rfl
@[simp] theorem mDef_ap {n nk : Nat} {gW : List W → List W → List W} {mf : FM} : mDef n nk gW mf mr mk ρ m = bnd (mr ρ m) fun ws m1 => bnd (mk ρ m1) fun us m2 => if ws.length = n ∧ us.length = nk then cut m.length (mf (gW ws us) m2) else none := rfl
@[simp] theorem cut_none : cut n none = none := rfl
@[simp] theorem cut_datS : cut n (some (.ok (.dat d), m)) = some (.ok (.dat d), m.take n) := rfl
@[simp] theorem cut_hdlS : cut n (some (.ok (.hdl k), m)) = if k < n then some (.ok (.hdl k), m.take n) else some (.ok (.hdl k), m) := rfl
@[simp] theorem take_same (h : m.length = n) : m.take n = m := by rw [← h]; exact List.take_length
/-! the operations -/
variable {x y : Int} {s t : Str} {p q : Bool} {xs ys : List D}
@[simp] theorem fAdd_int : fAdd (.int x) (.int y) = some (.int (x + y)) := rfl
@[simp] theorem fAdd_str : fAdd (.str s) (.str t) = if s.length + t.length ≤ 1000000 then some (.str (s ++ t)) else none := rfl
@[simp] theorem fAdd_lst : fAdd (.lst xs) (.lst ys) = if xs.length + ys.length ≤ 1000000 then some (.lst (xs ++ ys)) else none := rfl
@[simp] theorem fSub_int : fSub (.int x) (.int y) = some (.int (x - y)) := rfl
@[simp] theorem fMul_int : fMul (.int x) (.int y) = if x.natAbs.log2 + y.natAbs.log2 < 1000000 then some (.int (x * y)) else none := rfl
@[simp] theorem fMul_str : fMul (.str s) (.int y) = if 0 ≤ y ∧ y ≤ 100000 ∧ s.length * y.toNat ≤ 1000000 then some (.str ⟨(List.replicate y.toNat s.cps.toList).flatten.toArray⟩) else none := rfl
@[simp] theorem fMul_lst : fMul (.lst xs) (.int y) = if 0 ≤ y ∧ y ≤ 100000 ∧ xs.length * y.toNat ≤ 1000000 then some (.lst (List.replicate y.toNat xs).flatten) else none := rfl
@[simp] theorem fDiv_int : fDiv (.int x) (.int y) = if 0 < y ∧ y.natAbs.log2 < 9000 then some (.int (x / y)) else none := rfl
@[simp] theorem fMod_int : fMod (.int x) (.int y) = if 0 < y then some (.int (x % y)) else none := rfl
@[simp] theorem fPow_int : fPow (.int x) (.int y) = if 0 ≤ y ∧ y ≤ 1000000 ∧ x.natAbs < 2 ^ 64 then some (.int (x ^ y.toNat)) else none := rfl
@[simp] theorem fEq_int : fEq (.int x) (.int y) = some (.bl (x == y)) := rfl
@[simp] theorem fEq_str : fEq (.str s) (.str t) = some (.bl (s == t)) := rfl
@[simp] theorem fNe_int : fNe (.int x) (.int y) = some (.bl (!(x == y))) := rfl
@[simp] theorem fNe_str : fNe (.str s) (.str t) = some (.bl (!(s == t))) := rfl
@[simp] theorem fEq_bl : fEq (.bl p) (.bl q) = some (.bl (p == q)) := rfl
@[simp] theorem fNe_bl : fNe (.bl p) (.bl q) = some (.bl (!(p == q))) := rfl
@[simp] theorem fLt_int : fLt (.int x) (.int y) = some (.bl (decide (x < y))) := rfl
@[simp] theorem fLt_str : fLt (.str s) (.str t) = some (.bl (ltS s t)) := rfl
@[simp] theorem fLe_int : fLe (.int x) (.int y) = some (.bl (decide (x ≤ y))) := rfl
@[simp] theorem fGt_int : fGt (.int x) (.int y) = some (.bl (decide (y < x))) := rfl
@[simp] theorem fGe_int : fGe (.int x) (.int y) = some (.bl (decide (y ≤ x))) := rfl
@[simp] theorem fIn_str : fIn (.str s) (.str t) = some (.bl (inS s t)) := rfl
@[simp] theorem fNotIn_str : fNotIn (.str s) (.str t) = some (.bl (!inS s t)) := rfl
@[simp] theorem fIs_non : fIs d .non = some (.bl (isNo d)) := rfl
@[simp] theorem fIs_bl : fIs d (.bl p) = some (.bl (decide (isB d = some p))) := rfl
@[simp] theorem fIsNot_non : fIsNot d .non = some (.bl (!isNo d)) := rfl
@[simp] theorem fIsNot_bl : fIsNot d (.bl p) = some (.bl (!decide (isB d = some p))) := rfl
@[simp] theorem fIx_lst : fIx (.lst xs) (.int x) = atI xs x := rfl
@[simp] theorem fIx_tup : fIx (.tup xs) (.int x) = atI xs x := rfl
@[simp] theorem fIx_str : fIx (.str s) (.int x) = if s.length ≤ 1000000 then (atI s.cps.toList x).map fun c => .str ⟨#[c]⟩ else none := rfl
@[simp] theorem fNeg_int : fNeg (.int x) = some (.int (-x)) := rfl
@[simp] theorem fNot_bl : fNot (.bl p) = some (.bl (!p)) := rfl
@[simp] theorem fLen_str : fLen [.str s] = if s.length ≤ 1000000 then some (.int s.length) else none := rfl
@[simp] theorem fLen_lst : fLen [.lst xs] = some (.int xs.length) := rfl
@[simp] theorem fLen_tup : fLen [.tup xs] = some (.int xs.length) := rfl
@[simp] theorem fAbs_int : fAbs [.int x] = some (.int (if x < 0 then -x else x)) := rfl
@[simp] theorem fMax_int : fMax [.int x, .int y] = some (.int (if y > x then y else x)) := rfl
@[simp] theorem fMin_int : fMin [.int x, .int y] = some (.int (if y < x then y else x)) := rfl
@[simp] theorem fInt_int : fInt [.int x] = some (.int x) := rfl
@[simp] theorem fInt_bl : fInt [.bl p] = some (.int (if p then 1 else 0)) := rfl
@[simp] theorem fDivmod_int : fDivmod [.int x, .int y] = if 0 < y ∧ y.natAbs.log2 < 9000 then some (.tup [.int (x / y), .int (x % y)]) else none := rfl
@[simp] theorem fAll_lst : fAll [.lst xs] = (bls xs).map fun bs => .bl (bs.all id) := rfl
@[simp] theorem fAny_lst : fAny [.lst xs] = (bls xs).map fun bs => .bl (bs.any id) := rfl
@[simp] theorem fList_lst : fList [.lst xs] = some (.lst xs) := rfl
@[simp] theorem fList_tup : fList [.tup xs] = some (.lst xs) := rfl
@[simp] theorem fTuple_lst : fTuple [.lst xs] = some (.tup xs) := rfl
@[simp] theorem fTuple_tup : fTuple [.tup xs] = some (.tup xs) := rfl
@[simp] theorem fIsi_ty {n : String} : fIsi [d, .ty n] = (tyN d).bind fun t => (kitB t n).map .bl := rfl
@[simp] theorem fIsi_tup : fIsi [d, .tup xs] = (tyN d).bind fun t => (isiA t xs).map .bl := rfl
@[simp] theorem kit_NoneType_bool : kitB "NoneType" "bool" = some false := by decide +kernel
@[simp] theorem kit_NoneType_int : kitB "NoneType" "int" = some false := by decide +kernel
@[simp] theorem kit_NoneType_str : kitB "NoneType" "str" = some false := by decide +kernel
@[simp] theorem kit_NoneType_tuple : kitB "NoneType" "tuple" = some false := by decide +kernel
@[simp] theorem kit_NoneType_list : kitB "NoneType" "list" = some false := by decide +kernel
@[simp] theorem kit_NoneType_dict : kitB "NoneType" "dict" = some false := by decide +kernel
@[simp] theorem kit_NoneType_set : kitB "NoneType" "set" = some false := by decide +kernel
@[simp] theorem kit_NoneType_float : kitB "NoneType" "float" = some false := by decide +kernel
@[simp] theorem kit_bool_bool : kitB "bool" "bool" = some true := by decide +kernel
@[simp] theorem kit_bool_int : kitB "bool" "int" = some true := by decide +kernel
@[simp] theorem kit_bool_str : kitB "bool" "str" = some false := by decide +kernel
@[simp] theorem kit_bool_tuple : kitB "bool" "tuple" = some false := by decide +kernel
@[simp] theorem kit_bool_list : kitB "bool" "list" = some false := by decide +kernel
@[simp] theorem kit_bool_dict : kitB "bool" "dict" = some false := by decide +kernel
@[simp] theorem kit_bool_set : kitB "bool" "set" = some false := by decide +kernel
@[simp] theorem kit_bool_float : kitB "bool" "float" = some false := by decide +kernel
@[simp] theorem kit_int_bool : kitB "int" "bool" = some false := by decide +kernel
@[simp] theorem kit_int_int : kitB "int" "int" = some true := by decide +kernel
@[simp] theorem kit_int_str : kitB "int" "str" = some false := by decide +kernel
@[simp] theorem kit_int_tuple : kitB "int" "tuple" = some false := by decide +kernel
@[simp] theorem kit_int_list : kitB "int" "list" = some false := by decide +kernel
@[simp] theorem kit_int_dict : kitB "int" "dict" = some false := by decide +kernel
@[simp] theorem kit_int_set : kitB "int" "set" = some false := by decide +kernel
@[simp] theorem kit_int_float : kitB "int" "float" = some false := by decide +kernel
@[simp] theorem kit_str_bool : kitB "str" "bool" = some false := by decide +kernel
@[simp] theorem kit_str_int : kitB "str" "int" = some false := by decide +kernel
@[simp] theorem kit_str_str : kitB "str" "str" = some true := by decide +kernel
@[simp] theorem kit_str_tuple : kitB "str" "tuple" = some false := by decide +kernel
@[simp] theorem kit_str_list : kitB "str" "list" = some false := by decide +kernel
@[simp] theorem kit_str_dict : kitB "str" "dict" = some false := by decide +kernel
@[simp] theorem kit_str_set : kitB "str" "set" = some false := by decide +kernel
@[simp] theorem kit_str_float : kitB "str" "float" = some false := by decide +kernel
@[simp] theorem kit_tuple_bool : kitB "tuple" "bool" = some false := by decide +kernel
@[simp] theorem kit_tuple_int : kitB "tuple" "int" = some false := by decide +kernel
@[simp] theorem kit_tuple_str : kitB "tuple" "str" = some false := by decide +kernel
@[simp] theorem kit_tuple_tuple : kitB "tuple" "tuple" = some true := by decide +kernel
@[simp] theorem kit_tuple_list : kitB "tuple" "list" = some false := by decide +kernel
@[simp] theorem kit_tuple_dict : kitB "tuple" "dict" = some false := by decide +kernel
@[simp] theorem kit_tuple_set : kitB "tuple" "set" = some false := by decide +kernel
@[simp] theorem kit_tuple_float : kitB "tuple" "float" = some false := by decide +kernel
@[simp] theorem kit_list_bool : kitB "list" "bool" = some false := by decide +kernel
@[simp] theorem kit_list_int : kitB "list" "int" = some false := by decide +kernel
@[simp] theorem kit_list_str : kitB "list" "str" = some false := by decide +kernel
@[simp] theorem kit_list_tuple : kitB "list" "tuple" = some false := by decide +kernel
@[simp] theorem kit_list_list : kitB "list" "list" = some true := by decide +kernel
@[simp] theorem kit_list_dict : kitB "list" "dict" = some false := by decide +kernel
@[simp] theorem kit_list_set : kitB "list" "set" = some false := by decide +kernel
@[simp] theorem kit_list_float : kitB "list" "float" = some false := by decide +kernel
@[simp] theorem kit_dict_bool : kitB "dict" "bool" = some false := by decide +kernel
@[simp] theorem kit_dict_int : kitB "dict" "int" = some false := by decide +kernel
@[simp] theorem kit_dict_str : kitB "dict" "str" = some false := by decide +kernel
@[simp] theorem kit_dict_tuple : kitB "dict" "tuple" = some false := by decide +kernel
@[simp] theorem kit_dict_list : kitB "dict" "list" = some false := by decide +kernel
@[simp] theorem kit_dict_dict : kitB "dict" "dict" = some true := by decide +kernel
@[simp] theorem kit_dict_set : kitB "dict" "set" = some false := by decide +kernel
@[simp] theorem kit_dict_float : kitB "dict" "float" = some false := by decide +kernel
@[simp] theorem isiA_nil {t : String} : isiA t [] = some false := rfl
@[simp] theorem isiA_cons {t n : String} {r : List D} : isiA t (.ty n :: r) = (kitB t n).bind fun b => if b = true then some true else isiA t r := by
  show (match kitB t n with
    | some true => some true
    | some false => isiA t r
    | none => none) = _
  cases kitB t n with
  | none => rfl
  | some b => cases b <;> rfl
@[simp] theorem tyN_non : tyN .non = some "NoneType" := rfl
@[simp] theorem tyN_bl : tyN (.bl p) = some "bool" := rfl
@[simp] theorem tyN_int : tyN (.int x) = some "int" := rfl
@[simp] theorem tyN_str : tyN (.str s) = some "str" := rfl
@[simp] theorem tyN_tup : tyN (.tup xs) = some "tuple" := rfl
@[simp] theorem tyN_lst : tyN (.lst xs) = some "list" := rfl
@[simp] theorem tyN_dct {es : List (D × D)} : tyN (.dct es) = some "dict" := rfl
@[simp] theorem isB_bl : isB (.bl p) = some p := rfl
@[simp] theorem isB_int : isB (.int x) = none := rfl
@[simp] theorem isB_str : isB (.str s) = none := rfl
@[simp] theorem isB_non : isB .non = none := rfl
@[simp] theorem isB_tup : isB (.tup xs) = none := rfl
@[simp] theorem isB_lst : isB (.lst xs) = none := rfl
@[simp] theorem isNo_non : isNo .non = true := rfl
@[simp] theorem isNo_bl : isNo (.bl p) = false := rfl
@[simp] theorem isNo_int : isNo (.int x) = false := rfl
@[simp] theorem isNo_str : isNo (.str s) = false := rfl
@[simp] theorem isNo_tup : isNo (.tup xs) = false := rfl
@[simp] theorem isNo_lst : isNo (.lst xs) = false := rfl
@[simp] theorem fRepr_ap : fRepr [d] = if shD 60 d = true ∧ wgt d ≤ 1000000 then some (.str (py d).shown) else none := rfl
@[simp] theorem atI_0 {α : Type} {c : α} {l : List α} : atI (c :: l) 0 = some c := by simp [atI, ixN]
@[simp] theorem atI_1 {α : Type} {c c' : α} {l : List α} : atI (c :: c' :: l) 1 = some c' := by
  simp [atI, ixN]
  rw [if_pos (by omega)]; rfl
@[simp] theorem ixN_2_0 : ixN 2 0 = some 0 := rfl
@[simp] theorem ixN_2_1 : ixN 2 1 = some 1 := rfl
end
end Dm
namespace Dm
open PySem PySem.Spec PyProof.Rows L2
theorem inS_one {c : Nat} {z : Str} : inS ⟨#[c]⟩ z = decide (c ∈ z.cps.toList) := StrLaws.found_one z c
theorem bls_map {α : Type} (p : α → Bool) : ∀ l : List α, bls (l.map fun a => D.bl (p a)) = some (l.map p)
  | [] => rfl
  | a :: r => by
    rw [List.map_cons, List.map_cons]
    unfold bls
    rw [bls_map p r]
    rfl
theorem lg {i : Int} (n : Nat) (h0 : 0 ≤ i) (h : i < 2 ^ n) (hn : 0 < n := by decide) : i.natAbs.log2 < n := by
  by_cases hz : i.natAbs = 0
  · rw [hz]; simpa using hn
  · rw [Nat.log2_lt hz]
    have : ((i.natAbs : Nat) : Int) < ((2 ^ n : Nat) : Int) := by
      rw [Int.natAbs_of_nonneg h0]
      simpa using h
    exact Int.ofNat_lt.mp this
theorem getset {m : Mem} {k : Nat} {c : Cell} (h : m[k]? = some c) (c' : Cell) : (m.set k c')[k]? = some c' := by
  have hk : k < m.length := by rw [List.getElem?_eq_some_iff] at h; exact h.1
  exact List.getElem?_set_self hk
end Dm
/-! Dm, part 15: loops and comprehensions by what each turn gives; the pot. -/
namespace Dm
open PySem PySem.Spec PyProof.Rows L2
@[simp] theorem mLc_ap {mi : IM} {t : CT} {tt : TM} {te : EM} {vs : List Nat} {ρ : Slots} {m : Mem} : mLc mi t tt te vs ρ m = bnd (mi ρ m) fun ds m1 => if ds.length < 1000000 then (match lcL t tt te ds (wipeS ρ vs) m1 [] with
  | some (ys, m2) => some (.ok (.dat (.lst ys)), m2)
  | none => none) else none := rfl
@[simp] theorem iAny_ap {me : EM} {ρ : Slots} {m : Mem} : iAny me ρ m = bnd (me ρ m) itemsOf := rfl
@[simp] theorem iRange1_ap {me : EM} {ρ : Slots} {m : Mem} : iRange1 me ρ m = bnd (me ρ m) fun w m1 => match w with
  | .dat (.int j) => if j < 1000000 ∧ -1000000 < j then some (.ok (rangeD 0 j.toNat), m1) else none
  | _ => none := rfl
theorem rangeD_length {lo : Int} {n : Nat} : (rangeD lo n).length = n := by simp [rangeD]
theorem signsD_length {z : Str} : (signsD z).length = z.length := by simp [signsD, Str.length]
theorem lcL_one {i : Nat} {te : EM} {d : D} {r : List D} {ρ : Slots} {m : Mem} {acc : List D} : lcL (.one i) tYesM te (d :: r) ρ m acc = (match te (ρ.set i (some (.dat d))) m with
  | some (.ok (.dat y), m2) => lcL (.one i) tYesM te r ρ (m2.take m.length) (acc ++ [y])
  | _ => none) := rfl
/-- each item gives something, the memory aside -/
theorem lcEx {i n : Nat} {te : EM} {ρ : Slots} {I : Mem → Prop} {P : D → D → Prop} (hI : ∀ m, I m → m.length = n) : ∀ {ds : List D}, (∀ d ∈ ds, ∀ m, I m → ∃ y m2, te (ρ.set i (some (.dat d))) m = some (.ok (.dat y), m2) ∧ P d y ∧ I m2) →
    ∀ {m : Mem} {acc : List D}, I m → ∃ ys m', lcL (.one i) tYesM te ds ρ m acc = some (acc ++ ys, m') ∧ ys.length = ds.length ∧ Paired P ds ys ∧ I m'
  | [], _, m, acc, h => ⟨[], m, by rw [List.append_nil]; rfl, rfl, .nil, h⟩
  | d :: r, st, m, acc, h => by
    obtain ⟨y, m2, e, p, h2⟩ := st d List.mem_cons_self m h
    obtain ⟨ys, m', e2, l2, p2, h3⟩ := lcEx hI (ds := r) (fun d hd => st d (List.mem_cons_of_mem _ hd)) (m := m2) (acc := acc ++ [y]) h2
    refine ⟨y :: ys, m', ?_, congrArg (· + 1) l2, .cons p p2, h3⟩
    rw [lcL_one, e]
    dsimp only
    have tk : m2.take m.length = m2 := by rw [hI m h, ← hI m2 h2]; exact List.take_length
    rw [tk, e2, List.append_assoc]
    rfl
/-- each item gives g of it, nothing is changed -/
theorem lcMap {i : Nat} {te : EM} {ρ : Slots} {m : Mem} {g : D → D} : ∀ {ds : List D}, (∀ d ∈ ds, te (ρ.set i (some (.dat d))) m = some (.ok (.dat (g d)), m)) → ∀ {acc : List D}, lcL (.one i) tYesM te ds ρ m acc = some (acc ++ ds.map g, m)
  | [], _, acc => by rw [List.map_nil, List.append_nil]; rfl
  | d :: r, st, acc => by
    rw [lcL_one, st d List.mem_cons_self]
    dsimp only
    rw [List.take_length, lcMap (ds := r) (fun d hd => st d (List.mem_cons_of_mem _ hd)), List.append_assoc]
    rfl
@[simp] theorem sFor_ap {mi : IM} {mg : GM} {body : SM} {ρ : Slots} {m : Mem} : sFor mi mg body ρ m = sbd (mi ρ m) ρ fun ds m1 => forL mg body ds ρ m1 := rfl
/-- every turn goes on to the next -/
theorem forAll {mg : GM} {body : SM} {I : Slots → Mem → Prop} : ∀ {ds : List D}, (∀ d ∈ ds, ∀ ρ m, I ρ m → ∃ ρ1 m1, mg (.dat d) ρ m = some (.nx ρ1, m1) ∧ ∃ ρ2 m2, (body ρ1 m1 = some (.nx ρ2, m2) ∨ body ρ1 m1 = some (.ct ρ2, m2)) ∧ I ρ2 m2) →
    ∀ {ρ : Slots} {m : Mem}, I ρ m → ∃ ρ' m', forL mg body ds ρ m = some (.nx ρ', m') ∧ I ρ' m'
  | [], _, ρ, m, h => ⟨ρ, m, rfl, h⟩
  | d :: r, st, ρ, m, h => by
    obtain ⟨ρ1, m1, e1, ρ2, m2, e2, h2⟩ := st d List.mem_cons_self ρ m h
    obtain ⟨ρ', m', e3, h3⟩ := forAll (ds := r) (fun d hd => st d (List.mem_cons_of_mem _ hd)) h2
    refine ⟨ρ', m', ?_, h3⟩
    unfold forL
    rw [e1]
    rcases e2 with e2 | e2
    · dsimp only; rw [e2]; exact e3
    · dsimp only; rw [e2]; exact e3
/-! ### the pot: own digits, mixed numbers -/
structure Pot (p : Int) (k : Nat) (m : Mem) : Prop where
  ex : ∃ a b, m[k]? = some (.lst [.int a, .int b]) ∧ 0 ≤ a ∧ 0 ≤ b ∧ b < p
/-- a draw's mirror -/
def drawM (c1 c2 p q t : Int) : SM := sSeq (sIf (mTest (mOp fGt (mOp fIx (mVar 0) (mC (.int 0))) (mC (.int 0)))) (sSeq (sAsg (mCa fDivmod (mCons (mOp fIx (mVar 0) (mC (.int 0))) (mCons (mVar 1) (mNil)))) (gTupM 2 (gConss (gIdx (mVar 0) (mC (.int 0))) (gConss (gSet 2) (gNils)))))
  (sRet (mVar 2))) (sNil))
  (sSeq (sAsg (mOp fMod (mCa fInt (mCons (mOp fAdd (mOp fMul (mOp fIx (mVar 0) (mC (.int 1))) (mC (.int c1))) (mC (.int c2))) (mNil))) (mC (.int p))) (gIdx (mVar 0) (mC (.int 1))))
  (sRet (mOp fMod (mCa fInt (mCons (mOp fDiv (mOp fMod (mCa fInt (mCons (mOp fMul (mOp fIx (mVar 0) (mC (.int 1))) (mOp fIx (mVar 0) (mC (.int 1)))) (mNil))) (mC (.int q))) (mC (.int t))) (mNil))) (mVar 1))))
/-- the others are as before -/
structure Bes (k : Nat) (m m' : Mem) : Prop where
  len : m'.length = m.length
  oth : ∀ j, j ≠ k → m'[j]? = m[j]?
theorem Bes.refl {k : Nat} {m : Mem} : Bes k m m := ⟨rfl, fun _ _ => rfl⟩
theorem Bes.trans {k : Nat} {m m1 m2 : Mem} (a : Bes k m m1) (b : Bes k m1 m2) : Bes k m m2 := ⟨b.len.trans a.len, fun j h => (b.oth j h).trans (a.oth j h)⟩
theorem Bes.take {k : Nat} {m m' : Mem} (a : Bes k m m') : m'.take m.length = m' := by rw [← a.len]; exact List.take_length
theorem bes_set {k : Nat} {m : Mem} {c : Cell} : Bes k m (m.set k c) := ⟨List.length_set, fun j h => List.getElem?_set_ne (Ne.symm h)⟩
theorem draw_ok {c1 c2 p q t : Int} {N : List Str} (hN : N.length = 3) (hc : c1.natAbs.log2 < 1000) (hp : 0 < p) (hp2 : p < 2 ^ 64) (hq : 0 < q) (ht : 0 < t) (ht2 : t.natAbs.log2 < 9000) {m : Mem} {k : Nat} {n : Int} (h : Pot p k m) (hn : 0 < n) (hn2 : n.natAbs.log2 < 9000) :
    ∃ r m', mFn N (drawM c1 c2 p q t) [.hdl k, .dat (.int n)] m = some (.ok (.dat (.int r)), m') ∧ 0 ≤ r ∧ r < n ∧ Pot p k m' ∧ Bes k m m' := by
  obtain ⟨a, b, h, ha, hb, hb2⟩ := h.ex
  by_cases h0 : 0 < a
  · refine ⟨a % n, m.set k (.lst [.int (a / n), .int b]), ?_, Int.emod_nonneg _ (by omega), Int.emod_lt_of_pos _ hn, ⟨a / n, b, getset h _, Int.ediv_nonneg ha (by omega), hb, hb2⟩, bes_set⟩
    simp [drawM, mFn_ap, hN, h, h0, hn, hn2]
  · have ha0 : a = 0 := by omega
    subst ha0
    have l1 : b.natAbs.log2 < 64 := lg 64 hb (by omega)
    have b1 := Int.emod_nonneg (b * c1 + c2) (show p ≠ 0 by omega)
    have b2 := Int.emod_lt_of_pos (b * c1 + c2) hp
    generalize hb' : (b * c1 + c2) % p = b' at b1 b2
    have l2 : b'.natAbs.log2 < 64 := lg 64 b1 (by omega)
    have d1 : b.natAbs.log2 + c1.natAbs.log2 < 1000000 := by omega
    have d2 : b'.natAbs.log2 + b'.natAbs.log2 < 1000000 := by omega
    refine ⟨(b' * b') % q / t % n, m.set k (.lst [.int 0, .int b']), ?_, Int.emod_nonneg _ (by omega), Int.emod_lt_of_pos _ hn, ⟨0, b', getset h _, by decide, b1, b2⟩, bes_set⟩
    simp [drawM, mFn_ap, hN, h, hn, getset h, hb', d1, d2, hp, hq, ht, ht2]
end Dm
/-! Dm, part 16: what the laws have alike: the pot of a cell, a pick, the round over the cells. -/
namespace Dm
open PySem PySem.Spec PyProof.Rows L2
def potM (u v p w r s q : Int) : SM := sSeq (sSet 2 (mOp fAdd (mOp fMul (mC (.int u)) (mVar 1)) (mC (.int v))))
  (sSeq (sIf (mTest (mOp fLt (mVar 1) (mCa fLen (mCons (mVar 0) (mNil))))) (sSet 2 (mCa fAbs (mCons (mOp fIx (mVar 0) (mVar 1)) (mNil)))) (sNil))
  (sRet (mLstH (mCons (mCa fMax (mCons (mC (.int 0)) (mCons (mOp fSub (mVar 2) (mOp fPow (mC (.int 10)) (mC (.int 18)))) (mNil)))) (mCons (mOp fAdd (mOp fMod (mOp fMul (mCa fInt (mCons (mOp fAdd (mOp fMod (mCa fInt (mCons (mVar 2) (mNil))) (mC (.int p))) (mC (.int w))) (mNil))) (mOp fPow (mOp fAdd (mOp fMul (mC (.int r)) (mVar 1)) (mC (.int s))) (mC (.int 3)))) (mC (.int q))) (mC (.int 1))) (mNil))))))
theorem atI_map {ns : List Int} {at_ : Int} (h0 : 0 ≤ at_) (h1 : at_ < ns.length) : ∃ z, atI (ns.map D.int) at_ = some (.int z) := by
  unfold atI ixN
  rw [if_pos h0, if_pos (by rw [List.length_map]; exact h1)]
  have hl : at_.toNat < ns.length := by omega
  refine ⟨ns[at_.toNat], ?_⟩
  show (ns.map D.int)[at_.toNat]? = _
  rw [List.getElem?_map, List.getElem?_eq_getElem hl]
  rfl
/-- what is made of a cell -/
theorem pot_end {u v p w r s q P : Int} (hp : 0 < p) (hp2 : p < 2 ^ 40) (hw : 0 ≤ w) (hw2 : w < 1000) (hr : 0 ≤ r) (hr2 : r < 100) (hs : 0 ≤ s) (hs2 : s < 100) (hq : 0 < q) (hq2 : q < P) {m : Mem} {sc at_ z : Int} {x : Option W} (h0 : 0 ≤ at_) (h1 : at_ < 1000) :
    ∃ a b, sRet (mLstH (mCons (mCa fMax (mCons (mC (.int 0)) (mCons (mOp fSub (mVar 2) (mOp fPow (mC (.int 10)) (mC (.int 18)))) (mNil)))) (mCons (mOp fAdd (mOp fMod (mOp fMul (mCa fInt (mCons (mOp fAdd (mOp fMod (mCa fInt (mCons (mVar 2) (mNil))) (mC (.int p))) (mC (.int w))) (mNil))) (mOp fPow (mOp fAdd (mOp fMul (mC (.int r)) (mVar 1)) (mC (.int s))) (mC (.int 3)))) (mC (.int q))) (mC (.int 1))) (mNil))))
      [x, some (.dat (.int at_)), some (.dat (.int z))] m = some (.rt (.hdl m.length), m ++ [.lst [.int a, .int b]]) ∧ 0 ≤ a ∧ 0 ≤ b ∧ b < P := by
  have t1 : 0 ≤ r * at_ := Int.mul_nonneg hr h0
  have t2 : r * at_ ≤ 100 * 1000 := Int.mul_le_mul (by omega) (by omega) h0 (by omega)
  have e1 : (r * at_ + s).natAbs < 2 ^ 64 := by omega
  have e2 : 0 ≤ z % p + w := by have := Int.emod_nonneg z (show p ≠ 0 by omega); omega
  have e3 : z % p + w < 2 ^ 41 := by have := Int.emod_lt_of_pos z hp; omega
  have e4 : (z % p + w).natAbs.log2 < 41 := lg 41 e2 e3
  have e5 : ((r * at_ + s) ^ 3).natAbs.log2 < 60 := by
    refine lg 60 (Int.pow_nonneg (by omega)) ?_
    have c : r * at_ + s ≤ 2 ^ 18 := by omega
    have c0 : 0 ≤ r * at_ + s := by omega
    generalize r * at_ + s = y at c c0
    have : y ^ 3 = y * y * y := by rw [Int.pow_succ, Int.pow_succ, Int.pow_succ, Int.pow_zero, Int.one_mul]
    rw [this]
    have d1 : y * y ≤ 2 ^ 18 * 2 ^ 18 := Int.mul_le_mul c c c0 (by decide)
    have d2 : y * y * y ≤ 2 ^ 18 * 2 ^ 18 * 2 ^ 18 := Int.mul_le_mul d1 c c0 (by decide)
    have : (2 : Int) ^ 18 * 2 ^ 18 * 2 ^ 18 < 2 ^ 60 := by decide
    omega
  have e6 : (z % p + w).natAbs.log2 + ((r * at_ + s) ^ 3).natAbs.log2 < 1000000 := by omega
  have e7 := Int.emod_nonneg ((z % p + w) * (r * at_ + s) ^ 3) (show q ≠ 0 by omega)
  have e8 := Int.emod_lt_of_pos ((z % p + w) * (r * at_ + s) ^ 3) hq
  have c1 : r.natAbs.log2 < 10 := lg 10 hr (by omega)
  have c2 : at_.natAbs.log2 < 10 := lg 10 h0 (by omega)
  have c3 : r.natAbs.log2 + at_.natAbs.log2 < 1000000 := by omega
  refine ⟨(if z - 10 ^ 18 > 0 then z - 10 ^ 18 else 0), (z % p + w) * (r * at_ + s) ^ 3 % q + 1, ?_, by split <;> omega, by omega, by omega⟩
  rw [Int.natAbs_pow] at e6
  simp [e1, e6, hp, hq, c3]
theorem pot_ok {u v p w r s q P : Int} {N : List Str} (hN : N.length = 3) (hu : 0 ≤ u) (hu2 : u < 1000) (hp : 0 < p) (hp2 : p < 2 ^ 40) (hw : 0 ≤ w) (hw2 : w < 1000) (hr : 0 ≤ r) (hr2 : r < 100) (hs : 0 ≤ s) (hs2 : s < 100) (hq : 0 < q) (hq2 : q < P)
    {m : Mem} {ns : List Int} {at_ : Int} (h0 : 0 ≤ at_) (h1 : at_ < 1000) :
    ∃ a b, mFn N (potM u v p w r s q) [.dat (.lst (ns.map .int)), .dat (.int at_)] m = some (.ok (.hdl m.length), m ++ [.lst [.int a, .int b]]) ∧ 0 ≤ a ∧ 0 ≤ b ∧ b < P := by
  have c1 : u.natAbs.log2 < 10 := lg 10 hu (by omega)
  have c2 : at_.natAbs.log2 < 10 := lg 10 h0 (by omega)
  have c3 : u.natAbs.log2 + at_.natAbs.log2 < 1000000 := by omega
  by_cases hl : at_ < (ns.length : Int)
  · obtain ⟨z, hz⟩ := atI_map h0 hl
    obtain ⟨a, b, e, q1, q2, q3⟩ := pot_end (u := u) (v := v) (sc := 0) (x := some (.dat (.lst (ns.map .int)))) (z := if z < 0 then -z else z) (m := m) hp hp2 hw hw2 hr hr2 hs hs2 hq hq2 h0 h1
    refine ⟨a, b, ?_, q1, q2, q3⟩
    rw [mFn_ap, potM]
    simp only [hN, List.map_cons, List.map_nil, List.length_cons, List.length_nil]
    have st : ∀ (b1 b2 : SM) (ρ ρ1 ρ2 : Slots) (m : Mem), b1 ρ m = some (.nx ρ1, m) → b2 ρ1 m = some (.nx ρ2, m) → ∀ b3, sSeq b1 (sSeq b2 b3) ρ m = b3 ρ2 m := fun b1 b2 ρ ρ1 ρ2 m h1 h2 b3 => by
      rw [sSeq_ap, h1, sThen_nx, sSeq_ap, h2, sThen_nx]
    rw [st _ _ _ [some (.dat (.lst (ns.map .int))), some (.dat (.int at_)), some (.dat (.int (u * at_ + v)))] [some (.dat (.lst (ns.map .int))), some (.dat (.int at_)), some (.dat (.int (if z < 0 then -z else z)))] m (by simp [c3]) (by simp [hl, hz]), e]
    rfl
  · obtain ⟨a, b, e, q1, q2, q3⟩ := pot_end (u := u) (v := v) (sc := 0) (x := some (.dat (.lst (ns.map .int)))) (z := u * at_ + v) (m := m) hp hp2 hw hw2 hr hr2 hs hs2 hq hq2 h0 h1
    refine ⟨a, b, ?_, q1, q2, q3⟩
    rw [mFn_ap, potM]
    simp only [hN, List.map_cons, List.map_nil, List.length_cons, List.length_nil]
    have st : ∀ (b1 b2 : SM) (ρ ρ1 ρ2 : Slots) (m : Mem), b1 ρ m = some (.nx ρ1, m) → b2 ρ1 m = some (.nx ρ2, m) → ∀ b3, sSeq b1 (sSeq b2 b3) ρ m = b3 ρ2 m := fun b1 b2 ρ ρ1 ρ2 m h1 h2 b3 => by
      rw [sSeq_ap, h1, sThen_nx, sSeq_ap, h2, sThen_nx]
    rw [st _ _ _ [some (.dat (.lst (ns.map .int))), some (.dat (.int at_)), some (.dat (.int (u * at_ + v)))] [some (.dat (.lst (ns.map .int))), some (.dat (.int at_)), some (.dat (.int (u * at_ + v)))] m (by simp [c3]) (by simp [hl]), e]
    rfl
/-- some[draw(pot, len(some))] -/
def pickM (F : FM) : SM := sRet (mOp fIx (mVar 1) (mDef 2 0 (fun ws _ => ws) F (mCons (mVar 0) (mCons (mCa fLen (mCons (mVar 1) (mNil))) (mNil))) mNil))
/-- what a draw does -/
def DrawOk (p : Int) (F : FM) : Prop := ∀ {m : Mem} {k : Nat} {n : Int}, Pot p k m → 0 < n → n.natAbs.log2 < 9000 → ∃ r m', F [.hdl k, .dat (.int n)] m = some (.ok (.dat (.int r)), m') ∧ 0 ≤ r ∧ r < n ∧ Pot p k m' ∧ Bes k m m'
theorem atI_in {α : Type} {xs : List α} {r : Int} (h0 : 0 ≤ r) (h1 : r < xs.length) : ∃ c, atI xs r = some c ∧ c ∈ xs := by
  have hl : r.toNat < xs.length := by omega
  refine ⟨xs[r.toNat], ?_, List.getElem_mem hl⟩
  unfold atI ixN
  rw [if_pos h0, if_pos h1]
  exact List.getElem?_eq_getElem hl
theorem lg_len {n : Nat} (h : n ≤ 1000000) : ((n : Int)).natAbs.log2 < 9000 := by
  have := lg (i := (n : Int)) 20 (by omega) (by omega)
  omega
theorem pick_str {p : Int} {F : FM} {N : List Str} (hN : N.length = 2) (hF : DrawOk p F) {m : Mem} {k : Nat} {z : Str} (h : Pot p k m) (hz : 0 < z.length) (hz2 : z.length ≤ 1000000) :
    ∃ c m', mFn N (pickM F) [.hdl k, .dat (.str z)] m = some (.ok (.dat (.str ⟨#[c]⟩)), m') ∧ c ∈ z.cps.toList ∧ Pot p k m' ∧ Bes k m m' := by
  obtain ⟨r, m', e, r0, r1, hp, hb⟩ := hF (m := m) (k := k) (n := (z.length : Int)) h (by omega) (lg_len hz2)
  obtain ⟨c, hc, hm⟩ := atI_in (xs := z.cps.toList) r0 (by simpa [Str.length] using r1)
  refine ⟨c, m', ?_, hm, hp, hb⟩
  simp [mFn_ap, pickM, hN, hz2, e, hb.take, hc]
theorem pick_lst {p : Int} {F : FM} {N : List Str} (hN : N.length = 2) (hF : DrawOk p F) {m : Mem} {k : Nat} {xs : List D} (h : Pot p k m) (hz : 0 < xs.length) (hz2 : xs.length ≤ 1000000) :
    ∃ d m', mFn N (pickM F) [.hdl k, .dat (.lst xs)] m = some (.ok (.dat d), m') ∧ d ∈ xs ∧ Pot p k m' ∧ Bes k m m' := by
  obtain ⟨r, m', e, r0, r1, hp, hb⟩ := hF (m := m) (k := k) (n := (xs.length : Int)) h (by omega) (lg_len hz2)
  obtain ⟨c, hc, hm⟩ := atI_in (xs := xs) r0 r1
  refine ⟨c, m', ?_, hm, hp, hb⟩
  simp [mFn_ap, pickM, hN, e, hb.take, hc]
theorem pick_tup {p : Int} {F : FM} {N : List Str} (hN : N.length = 2) (hF : DrawOk p F) {m : Mem} {k : Nat} {xs : List D} (h : Pot p k m) (hz : 0 < xs.length) (hz2 : xs.length ≤ 1000000) :
    ∃ d m', mFn N (pickM F) [.hdl k, .dat (.tup xs)] m = some (.ok (.dat d), m') ∧ d ∈ xs ∧ Pot p k m' ∧ Bes k m m' := by
  obtain ⟨r, m', e, r0, r1, hp, hb⟩ := hF (m := m) (k := k) (n := (xs.length : Int)) h (by omega) (lg_len hz2)
  obtain ⟨c, hc, hm⟩ := atI_in (xs := xs) r0 r1
  refine ⟨c, m', ?_, hm, hp, hb⟩
  simp [mFn_ap, pickM, hN, e, hb.take, hc]
/-! ### the round over the cells -/
def roundM (FR FP : FM) (me : EM) : SM := sRet (mCa fAll (mCons (mLc (iRange1 me) (.one 1) (tYesM) (mDef 1 0 (fun ws _ => ws) FR (mCons (mDef 2 0 (fun ws _ => ws) FP (mCons (mVar 0) (mCons (mVar 1) (mNil))) mNil) (mNil)) mNil) [1]) (mNil)))
def PotOk (p : Int) (F : FM) : Prop := ∀ {m : Mem} {ns : List Int} {at_ : Int}, 0 ≤ at_ → at_ < 1000 → ∃ a b, F [.dat (.lst (ns.map .int)), .dat (.int at_)] m = some (.ok (.hdl m.length), m ++ [.lst [.int a, .int b]]) ∧ 0 ≤ a ∧ 0 ≤ b ∧ b < p
theorem bls_true : ∀ n : Nat, bls (List.replicate n (.bl true)) = some (List.replicate n true)
  | 0 => rfl
  | n + 1 => by
    rw [List.replicate_succ, List.replicate_succ]
    unfold bls
    rw [bls_true n]
    rfl
theorem round_ok {p : Int} {FR FP : FM} {me : EM} {N : List Str} (hN : N.length = 2) (hP : PotOk p FP) (hR : ∀ {m : Mem}, Pot p 0 m → m.length = 1 → ∃ m', FR [.hdl 0] m = some (.ok (.dat (.bl true)), m')) {ns : List Int} {j : Int} (hj : j < 1000) (hj0 : 0 ≤ j)
    (hme : me [some (.dat (.lst (ns.map .int))), none] [] = some (.ok (.dat (.int j)), [])) : ∃ m', mFn N (roundM FR FP me) [.dat (.lst (ns.map .int))] [] = some (.ok (.dat (.bl true)), m') := by
  refine ⟨[], ?_⟩
  have key : lcL (.one 1) tYesM (mDef 1 0 (fun ws _ => ws) FR (mCons (mDef 2 0 (fun ws _ => ws) FP (mCons (mVar 0) (mCons (mVar 1) (mNil))) mNil) (mNil)) mNil) (rangeD 0 j.toNat) [some (.dat (.lst (ns.map .int))), none] [] [] = some ((rangeD 0 j.toNat).map fun _ => .bl true, []) := by
    have := lcMap (i := 1) (te := mDef 1 0 (fun ws _ => ws) FR (mCons (mDef 2 0 (fun ws _ => ws) FP (mCons (mVar 0) (mCons (mVar 1) (mNil))) mNil) (mNil)) mNil) (ρ := [some (.dat (.lst (ns.map .int))), none]) (m := []) (g := fun _ => .bl true) (ds := rangeD 0 j.toNat) (fun d hd => ?_) (acc := [])
    · exact this
    · obtain ⟨i, hi, rfl⟩ := List.mem_map.mp hd
      have hi' := List.mem_range.mp hi
      obtain ⟨a, b, e, a0, b0, b1⟩ := hP (m := []) (ns := ns) (at_ := 0 + (i : Int)) (by omega) (by omega)
      obtain ⟨m', e2⟩ := hR (m := [.lst [.int a, .int b]]) ⟨a, b, rfl, a0, b0, b1⟩ rfl
      have e' : FP [.dat (.lst (ns.map .int)), .dat (.int (0 + (i : Int)))] [] = some (.ok (.hdl 0), [.lst [.int a, .int b]]) := e
      simp only [Int.zero_add] at e'
      simp [e', e2]
  have w : wipeS [some (W.dat (.lst (ns.map .int))), none] [1] = [some (.dat (.lst (ns.map .int))), none] := rfl
  have b : bls ((rangeD 0 j.toNat).map fun _ => D.bl true) = some (List.replicate j.toNat true) := by
    rw [List.map_const', rangeD_length]
    exact bls_true _
  have l : (rangeD 0 j.toNat).length < 1000000 := by rw [rangeD_length]; omega
  simp only [mFn_ap, roundM, hN, List.map_cons, List.map_nil, List.length_cons, List.length_nil]
  have r1 : List.replicate (2 - 1) (none : Option W) = [none] := rfl
  simp [hme, w, key, b, l, show j < 1000000 by omega, show -1000000 < j by omega]
end Dm
/-! Dm, part 17: handles frozen, methods of lists. -/
namespace Dm
open PySem PySem.Spec PyProof.Rows L2
open Evl (Ex)
/-! ### a handle's object is frozen: it is data from here on -/
theorem Cell.d_live {c : Cell} {d : D} (h : c.d = some d) : c.isDead = false := by cases c <;> first | rfl | cases h
theorem Wd.kill {K : PySem.W.Frag} {B H : Hp} {al : Pl} {m : Mem} {k : Nat} {c : Cell} {d : D} (wd : Wd K B al m H) (hk : m[k]? = some c) (hd : c.d = some d) : ∃ B', Ex B B' ∧ Wd K B' al (m.set k .dead) H ∧ Rep K B' (.ref (al k)) d := by
  have live := Cell.d_live hd
  obtain ⟨hb, hc⟩ := wd.cell k c hk live
  have hf := wd.fc k c hk live
  have lk : k < m.length := by rw [List.getElem?_eq_some_iff] at hk; exact hk.1
  have ex : ∃ o, H (al k) = some o := by
    cases c with
    | dead => cases live
    | lst ds => obtain ⟨vs, z, _⟩ := hc; exact ⟨_, z⟩
    | dct es => rcases hc with ⟨kvs, z, _⟩ | ⟨kvs, z, _⟩ <;> exact ⟨_, z⟩
    | obj cc fs => obtain ⟨dx, gs, z, _⟩ := hc; exact ⟨_, z⟩
  obtain ⟨o, ho⟩ := ex
  have e1 : Ex B (upd B (al k) o) := Ex.new hb
  have at_ : ∀ j c1, (m.set k .dead)[j]? = some c1 → c1.isDead = false → m[j]? = some c1 ∧ j ≠ k := fun j c1 e h => by
    by_cases z : k = j
    · subst z
      rw [List.getElem?_set_self lk] at e
      cases e; cases h
    · rw [List.getElem?_set_ne z] at e
      exact ⟨e, fun w => z w.symm⟩
  have ne : ∀ j c1, m[j]? = some c1 → c1.isDead = false → j ≠ k → al j ≠ al k := fun j c1 e h z w => z (wd.inj j k c1 c e hk h live w)
  refine ⟨upd B (al k) o, e1, ⟨fun a u e => ?_, fun j c1 e h => ?_, fun i j c1 c2 f1 f2 h1 h2 w => ?_, wd.fx, fun a ha => ?_, fun j c1 e h => ?_⟩, ?_⟩
  · by_cases z : a = al k
    · subst z; rw [upd_same] at e; cases e; exact ho
    · rw [upd_ne z] at e; exact wd.ext a u e
  · obtain ⟨e', z⟩ := at_ j c1 e h
    obtain ⟨g1, g2⟩ := wd.cell j c1 e' h
    refine ⟨by rw [upd_ne (ne j c1 e' h z)]; exact g1, ?_⟩
    cases c1 with
    | dead => cases h
    | lst ds => obtain ⟨vs, z1, z2⟩ := g2; exact ⟨vs, z1, z2.mono e1⟩
    | dct es =>
      rcases g2 with ⟨kvs, z1, z2⟩ | ⟨kvs, z1, z2⟩
      · exact .inl ⟨kvs, z1, z2.mono e1⟩
      · exact .inr ⟨kvs, z1, z2.mono e1⟩
    | obj cc fs => obtain ⟨dx, gs, z1, z2⟩ := g2; exact ⟨dx, gs, z1, z2.mono e1⟩
  · exact wd.inj i j c1 c2 (at_ i c1 f1 h1).1 (at_ j c2 f2 h2).1 h1 h2 w
  · have z : a ≠ al k := fun z => by rw [z, hf] at ha; exact ha rfl
    rw [upd_ne z]; exact wd.fb a ha
  · exact wd.fc j c1 (at_ j c1 e h).1 h
  · have here : upd B (al k) o (al k) = some o := upd_same
    cases c with
    | dead => cases live
    | lst ds =>
      cases hd
      obtain ⟨vs, z, r⟩ := hc
      rw [ho] at z; cases z
      exact .lst (.inl (.inl here)) (r.mono e1)
    | dct es =>
      cases hd
      rcases hc with ⟨kvs, z, r⟩ | ⟨kvs, z, r⟩
      · rw [ho] at z; cases z; exact .dct (.inl here) (r.mono e1)
      · rw [ho] at z; cases z; exact .dctT (.inl here) (r.mono e1)
    | obj cc fs =>
      cases hd
      obtain ⟨dx, gs, z, r⟩ := hc
      rw [ho] at z; cases z
      exact .obj here (r.mono e1)
/-- the value of e, as data from here on -/
def mFrz (me : EM) : EM := fun ρ m => bnd (me ρ m) fun w m1 => match w with
  | .dat d => some (.ok (.dat d), m1)
  | .hdl k => (match m1[k]? with
    | some c => (match c.d with
      | some d => some (.ok (.dat d), m1.set k .dead)
      | none => none)
    | none => none)
theorem se_frz {X : Cx} {e : Expr} {me : EM} (he : SE X e me) : SE X e (mFrz me) := by
  refine ⟨fun ρ m o m' q => bnd_len q (he.len ρ m) fun w m1 q1 => ?_, fun ρ m o m' q B al σ H Q wd rs h => ?_⟩
  · split at q1
    · cases q1; exact Nat.le_refl _
    · split at q1
      · split at q1
        · cases q1; exact Nat.le_of_eq List.length_set.symm
        · cases q1
      · cases q1
  · refine he.seq q wd rs h.res fun w m1 q1 l1 B1 al1 v1 H1 x1 g1 wd1 r1 => ?_
    split at q1
    · next d => cases q1; exact h B1 al1 v1 H1 x1 g1 wd1 r1
    · next k =>
      split at q1
      · next c ec =>
        split at q1
        · next d ed =>
          cases q1
          obtain ⟨rfl, _⟩ : v1 = .ref (al1 k) ∧ k < m1.length := r1
          obtain ⟨B2, x2, w2, rr⟩ := wd1.kill ec ed
          exact h B2 al1 _ H1 (x1.trans x2) g1 w2 rr
        · cases q1
      · cases q1
/-- the name's object is data from here on -/
def sFrz (i : Nat) (b : SM) : SM := fun ρ m => match ρ[i]? with
  | some (some (.hdl k)) => (match m[k]? with
    | some c => (match c.d with
      | some d => b (ρ.set i (some (.dat d))) (m.set k .dead)
      | none => none)
    | none => none)
  | _ => b ρ m
theorem sss_frz {X : Cx} {bs : List Stmt} {b : SM} (i : Nat) (hb : SSs X bs b) : SSs X bs (sFrz i b) := by
  refine ⟨fun ρ m f m' q => ?_, fun ρ m f m' q B al σ H D wd rs h => ?_⟩
  · unfold sFrz at q
    split at q
    · split at q
      · split at q
        · have := hb.len _ _ _ _ q
          rw [List.length_set] at this
          exact this
        · cases q
      · cases q
    · exact hb.len _ _ _ _ q
  · unfold sFrz at q
    split at q
    · next k e =>
      split at q
      · next c ec =>
        split at q
        · next d ed =>
          obtain ⟨v, hv, rfl, hk⟩ := rs.2 i _ e
          obtain ⟨B2, x2, w2, rr⟩ := wd.kill ec ed
          have l : (m.set k .dead).length = m.length := List.length_set
          have rs2 : RepS X.K B2 al (m.set k Cell.dead).length σ (ρ.set i (some (.dat d))) := by
            rw [l]
            have r0 := rs.mono x2 (Agr.refl (n := m.length) (al := al)) (Nat.le_refl _)
            refine ⟨by rw [List.length_set]; exact r0.1, fun j w hw => ?_⟩
            by_cases z : i = j
            · subst z
              have li : i < ρ.length := by rw [List.getElem?_eq_some_iff] at e; exact e.1
              rw [List.getElem?_set_self li] at hw
              cases hw
              exact ⟨_, hv, rr⟩
            · rw [List.getElem?_set_ne z] at hw
              exact r0.2 j w hw
          exact hb.run _ _ _ _ q B2 al σ H D w2 rs2 (h.mono x2 Agr.refl (by rw [l]; exact Nat.le_refl _))
        · cases q
      · cases q
    · exact hb.run _ _ _ _ q B al σ H D wd rs h
/-! ### methods of lists -/
def meAppend : Cell → List D → Option (D × Cell)
  | .lst ds, [d] => if ds.length < LIM then some (.non, .lst (ds ++ [d])) else none
  | _, _ => none
def mePop : Cell → List D → Option (D × Cell)
  | .lst ds, [] => (ds[ds.length - 1]?).map fun d => (d, .lst ds.dropLast)
  | .lst ds, [.int i] => if 0 ≤ i ∧ i < ds.length then (ds[i.toNat]?).map fun d => (d, .lst (ds.eraseIdx i.toNat)) else none
  | _, _ => none
def meInsert : Cell → List D → Option (D × Cell)
  | .lst ds, [.int i, d] => if ds.length < LIM ∧ 0 ≤ i ∧ i ≤ LIM then some (.non, .lst (ds.take i.toNat ++ [d] ++ ds.drop i.toNat)) else none
  | _, _ => none
def meExtend : Cell → List D → Option (D × Cell)
  | .lst ds, [.lst es] => if ds.length + es.length ≤ LIM then some (.non, .lst (ds ++ es)) else none
  | _, _ => none
def meReverse : Cell → List D → Option (D × Cell)
  | .lst ds, [] => some (.non, .lst ds.reverse)
  | _, _ => none
def meClear : Cell → List D → Option (D × Cell)
  | .lst _, [] => some (.non, .lst [])
  | _, _ => none
def rMe (X : Cx) (f : Cell → List D → Option (D × Cell)) : V → List V → Hp → VK → Prop := fun x xs H Q => ∃ (B : Hp) (a : Addr) (zs : List D) (c' : Cell) (ds : List D) (d : D), x = .ref a ∧ Ex B H ∧ RepC X.K B H a (.lst zs) ∧ Reps X.K B xs ds ∧ f (.lst zs) ds = some (d, c') ∧ B a = none ∧
  ∀ o' v, RepC X.K B (upd H a o') a c' → Rep X.K B v d → Q v (upd H a o')
theorem Reps.eraseIdx {K : PySem.W.Frag} {B : Hp} : ∀ {vs : List V} {ds : List D} (i : Nat), Reps K B vs ds → Reps K B (vs.eraseIdx i) (ds.eraseIdx i)
  | _, _, _, .nil => .nil
  | _, _, 0, .cons _ t => t
  | _, _, i + 1, .cons r t => .cons r (Reps.eraseIdx i t)
theorem Reps.dropLast {K : PySem.W.Frag} {B : Hp} : ∀ {vs : List V} {ds : List D}, Reps K B vs ds → Reps K B vs.dropLast ds.dropLast
  | _, _, .nil => .nil
  | _, _, .cons _ .nil => .nil
  | _, _, .cons r (.cons q t) => .cons r (Reps.dropLast (.cons q t))
theorem list_extendW (l : Addr) (items : Array Value) (n : Nat) (b : Addr) (items2 : Array Value) (n2 : Nat) (dd2 : Option Addr) (sl2 : Array (Option Value)) (hc0 : ¬(!items.isEmpty && Builtin.List.listTooLong (items.size + items2.size)) = true) (hc1 : items.size ≤ sizeLine) (hs2 : items.size + items2.size ≤ sizeLine + 1) :
    Meets (Builtin.«list.extend» ⟨[.ref l, .ref b], []⟩) (fun _ R s => s.heap.get? l = some { cls := .type "list", dict := none, data := .seq items n, slots := #[] } ∧ s.heap.get? b = some { cls := .type "list", dict := dd2, data := .seq items2 n2, slots := sl2 } ∧ R (.ok (.ret Value.none)) { s with heap := s.heap.update l (Obj.mapSeq fun x => x ++ items2), toks := s.toks }) :=
  .of_wp fun prog w A R s h => by
    obtain ⟨hp, g, d, tk, os⟩ := s; obtain ⟨hl, hb, h⟩ := h; have f1 := AutoSeq1.idx_int; have f2 := AutoSeq1.sub_tuple_tuple; have f3 := AutoSeq1.sub_list_list; have f4 := AutoSeq1.sub_tuple_list; have f5 := AutoSeq1.sub_list_tuple
    have hz' : (items ++ items2).size ≤ sizeLine + 1 := by rw [Array.size_append]; exact hs2
    wp_walk using (wpAny_updateSeq hl rfl (hz := hc1) (_hz' := hz')), AutoSeq1.wpAny_loadPart' hl, AutoSeq1.wpAny_loadPart' hb; exact ⟨_, rfl, h⟩
section
variable {X : Cx}
theorem mt_append' : MtR X "list.append" (rMe X meAppend) := by
  rintro pins s σ H x xs v us Q I rx rxs ⟨B, a, zs, c', ds, d, rfl, e, ⟨vs, ha, rz⟩, r, hm, hb, q⟩
  match ds, r, hm with
  | [y], .cons r1 .nil, hm =>
    have hm' : (if zs.length < LIM then some (D.non, Cell.lst (zs ++ [y])) else none) = some (d, c') := hm
    split at hm'
    · next hl =>
      cases hm'
      exact mt_append pins s σ H _ _ v us Q I rx rxs ⟨a, vs, _, rfl, rfl, ha, by rw [rz.length]; exact lim_lt hl, q _ _ ⟨_, upd_same, rz.append (.cons r1 .nil)⟩ .non⟩
    · cases hm'
  | [], _, hm => cases hm
  | _ :: _ :: _, _, hm => cases hm
theorem mt_pop' : MtR X "list.pop" (rMe X mePop) := by
  rintro pins s σ H x xs v us Q I rx rxs ⟨B, a, zs, c', ds, d, rfl, e, ⟨vs, ha, rz⟩, r, hm, hb, q⟩
  match ds, r, hm with
  | [], .nil, hm =>
    obtain ⟨d', hd, e'⟩ := Option.map_eq_some_iff.mp (show (zs[zs.length - 1]?).map (fun d => (d, Cell.lst zs.dropLast)) = some (d, c') from hm)
    cases e'
    obtain ⟨z, hz, rzz⟩ := rz.get hd
    exact mt_pop pins s σ H _ _ v us Q I rx rxs ⟨a, vs, z, rfl, rfl, ha, by rw [rz.length]; exact hz, q _ _ ⟨_, upd_same, rz.dropLast⟩ rzz⟩
  | [.int i], .cons (.int _) .nil, hm =>
    have hm' : (if 0 ≤ i ∧ i < zs.length then (zs[i.toNat]?).map fun d => (d, Cell.lst (zs.eraseIdx i.toNat)) else none) = some (d, c') := hm
    split at hm'
    · next hi =>
      obtain ⟨d', hd, e'⟩ := Option.map_eq_some_iff.mp hm'
      cases e'
      obtain ⟨z, hz, rzz⟩ := rz.get hd
      have hn := line63
      obtain ⟨its, nn, rr, ho, hsz⟩ := I.lst ha
      have hl := rz.length
      refine mt_popAt pins s σ H _ _ v us Q I rx rxs ⟨a, vs, i, i.toNat, z, rfl, rfl, ha, by omega, by omega, ?_, hz, q _ _ ⟨_, upd_same, rz.eraseIdx _⟩ rzz⟩
      exact seqIndex_of hi.1 (by rw [hl]; exact hi.2)
    · cases hm'
theorem mt_insert' : MtR X "list.insert" (rMe X meInsert) := by
  rintro pins s σ H x xs v us Q I rx rxs ⟨B, a, zs, c', ds, d, rfl, e, ⟨vs, ha, rz⟩, r, hm, hb, q⟩
  match ds, r, hm with
  | [.int i, y], .cons (.int _) (.cons r1 .nil), hm =>
    have hm' : (if zs.length < LIM ∧ 0 ≤ i ∧ i ≤ LIM then some (D.non, Cell.lst (zs.take i.toNat ++ [y] ++ zs.drop i.toNat)) else none) = some (d, c') := hm
    split at hm'
    · next hl =>
      cases hm'
      have hL : LIM = 1000000 := rfl
      exact L2.mt_insert pins s σ H _ _ v us Q I rx rxs ⟨a, vs, i, _, rfl, rfl, ha, by rw [rz.length]; exact lim_lt hl.1, hl.2.1, by omega, q _ _ ⟨_, upd_same, ((rz.take _).append (.cons r1 .nil)).append (rz.drop _)⟩ .non⟩
    · cases hm'
theorem mt_extend' : MtR X "list.extend" (rMe X meExtend) := by
  rintro pins s σ H x xs v us Q I rx rxs ⟨B, a, zs, c', ds, d, rfl, e, ⟨vs, ha, rz⟩, r, hm, hb, q⟩
  match ds, r, hm with
  | [.lst es], .cons (.lst (a := b) (vs := us2) hq rr) .nil, hm =>
    have hm' : (if zs.length + es.length ≤ LIM then some (D.non, Cell.lst (zs ++ es)) else none) = some (d, c') := hm
    split at hm'
    · next hl =>
      cases hm'
      cases rx
      obtain ⟨u, rfl, ru⟩ := rxs.one
      cases (show u = Value.ref b from ru)
      obtain ⟨z, its, n, rv, hll, eo⟩ := I.lstM ha
      obtain ⟨its2, rv2, ⟨o2, n2, ho2, hc2, _, hd2⟩, hl2⟩ := I.list (Evl.ex_l e hq)
      obtain ⟨cls2, dd2, data2, sl2⟩ := o2
      simp only at hc2 hd2
      subst hc2 hd2
      have k1 : vs.length = zs.length := rz.length
      have k2 : us2.length = es.length := rr.length
      have k3 : us2.length = its2.length := rv2.length
      have k4 := lim_ok hl
      have hsz : its.toArray.size + its2.toArray.size ≤ sizeLine := by rw [List.size_toArray, List.size_toArray]; omega
      have hlong : ¬ (!its.toArray.isEmpty && Builtin.List.listTooLong (its.toArray.size + its2.toArray.size)) = true := by
        rw [notLongL hsz, Bool.and_false]
        exact Bool.false_ne_true
      refine call_meets F.slot_list_extend ⟨_, eo, rfl⟩ F.entry_list_extend (F.args_list_extend_2 _ _)
        (list_extendW a its.toArray n b its2.toArray n2 dd2 sl2 hlong (by rw [List.size_toArray]; omega) (by omega)) ⟨eo, ho2, ?_⟩
      refine ⟨.non, _, I.lset (its' := its ++ its2) ha eo (by simp) (rv.append rv2) ?_, rfl, q _ _ ⟨_, upd_same, rz.append rr⟩ .non⟩
      rw [List.length_append]
      omega
    · cases hm'
theorem mt_reverse' : MtR X "list.reverse" (rMe X meReverse) := by
  rintro pins s σ H x xs v us Q I rx rxs ⟨B, a, zs, c', ds, d, rfl, e, ⟨vs, ha, rz⟩, r, hm, hb, q⟩
  match ds, r, hm with
  | [], .nil, hm =>
    cases hm
    exact mt_reverse pins s σ H _ _ v us Q I rx rxs ⟨a, vs, rfl, rfl, ha, q _ _ ⟨_, upd_same, rz.reverse⟩ .non⟩
theorem mt_clear' : MtR X "list.clear" (rMe X meClear) := by
  rintro pins s σ H x xs v us Q I rx rxs ⟨B, a, zs, c', ds, d, rfl, e, ⟨vs, ha, rz⟩, r, hm, hb, q⟩
  match ds, r, hm with
  | [], .nil, hm =>
    cases hm
    exact mt_clear pins s σ H _ _ v us Q I rx rxs ⟨a, vs, rfl, rfl, ha, q _ _ ⟨_, upd_same, .nil⟩ .non⟩
/-- o.m(e, ..), o a list that is a handle -/
def mMe (f : Cell → List D → Option (D × Cell)) (mo : EM) (ma : AM) : EM := fun ρ m => bnd (mo ρ m) fun w m1 => match w with
  | .hdl k => (match m1[k]? with
    | some (.lst _) => bnd (ma ρ m1) fun ws m2 => (match dats ws, m2[k]? with
      | some ds, some (.lst zs) => (match f (.lst zs) ds with
        | some (d, c') => if c'.isDead = false then some (.ok (.dat d), m2.set k c') else none
        | none => none)
      | _, _ => none)
    | _ => none)
  | _ => none
theorem me_inv {f : Cell → List D → Option (D × Cell)} {k : Nat} {ws : List W} {m2 m' : Mem} {o : Out W} (q : (match dats ws, m2[k]? with
      | some ds, some (.lst zs) => (match f (.lst zs) ds with
        | some (d, c') => if c'.isDead = false then (some (.ok (.dat d), m2.set k c') : Run W) else none
        | none => none)
      | _, _ => none) = some (o, m')) : ∃ ds zs d c', dats ws = some ds ∧ m2[k]? = some (.lst zs) ∧ f (.lst zs) ds = some (d, c') ∧ c'.isDead = false ∧ o = .ok (.dat d) ∧ m' = m2.set k c' := by
  split at q
  · next ds zs e1 e2 =>
    split at q
    · next d c' e3 =>
      split at q
      · next e4 => cases q; exact ⟨ds, zs, d, c', e1, e2, e3, e4, rfl, rfl⟩
      · cases q
    · cases q
  · cases q
theorem me_run {f : Cell → List D → Option (D × Cell)} {o : Expr} {es : List Expr} {mo : EM} {ma : AM} (ho : SE X o mo) (ha : SA X es ma) {ρ : Slots} {m m' : Mem} {oo : Out W} (q : mMe f mo ma ρ m = some (oo, m')) {B : Hp} {al : Pl} {σ : L2.St} {H : Hp} {Q : VK}
    (wd : Wd X.K B al m H) (rs : RepS X.K B al m.length σ ρ) (h : AnsE X B al m.length σ Q m' oo) : tBM X.K "list" (rMe X f) (wE X o) (wA X es) σ H Q := by
  refine ho.seq q wd rs h.res fun w m1 q1 l1 B1 al1 v1 H1 x1 g1 wd1 r1 => ?_
  cases w with
  | dat d => cases q1
  | hdl k =>
    obtain ⟨rfl, hk⟩ : v1 = .ref (al1 k) ∧ k < m1.length := r1
    dsimp only at q1
    split at q1
    · next zs0 e0 =>
      obtain ⟨_, vs0, h0, _⟩ := wd1.cell k _ e0 rfl
      refine ⟨.inl ⟨rfl, vs0, .inl (.inl h0)⟩, ?_⟩
      refine ha.seq q1 wd1 (rs.mono x1 g1 l1) (fun c fs z => (h.res c fs z).mono x1 g1 l1) fun ws m2 q2 l2 B2 al2 vs2 H2 x2 g2 wd2 r2 => ?_
      obtain ⟨ds, zs, d, c', e1, e2, e3, e4, rfl, rfl⟩ := me_inv q2
      have ek : al2 k = al1 k := g2.at_ k hk
      obtain ⟨cb, cc⟩ := wd2.cell k _ e2 rfl
      rw [ek] at cb cc
      refine ⟨B2, al1 k, zs, c', ds, d, rfl, wd2.ext, cc, r2.dats e1, e3, cb, fun o' v hc' rv => ?_⟩
      rw [← ek] at hc' ⊢
      exact h B2 al2 v _ (x1.trans x2) (g1.trans g2 l1) (wd2.store (o := o') e2 rfl e4 hc') rv
    · cases q1
theorem me_len {f : Cell → List D → Option (D × Cell)} {o : Expr} {es : List Expr} {mo : EM} {ma : AM} (ho : SE X o mo) (ha : SA X es ma) : ∀ ρ m oo m', mMe f mo ma ρ m = some (oo, m') → m.length ≤ m'.length := fun ρ m oo m' q =>
  bnd_len q (ho.len ρ m) fun w m1 q1 => by
    cases w with
    | dat d => cases q1
    | hdl k =>
      dsimp only at q1
      split at q1
      · exact bnd_len q1 (ha.len ρ m1) fun ws m2 q2 => by
          obtain ⟨_, _, _, _, _, _, _, _, _, rfl⟩ := me_inv q2
          rw [List.length_set]; exact Nat.le_refl _
      · cases q1
theorem se_me {id : String} {name : Str} {f : Cell → List D → Option (D × Cell)} {o e : Expr} {es : List Expr} {mo : EM} {ma : AM} {apos cpos : Pos} (slot : Slot "list" name id) (hty : typeOf (.builtin id) = pure (.type "method_descriptor")) (hm : MtR X id (rMe X f)) (ho : SE X o mo) (ha : SA X (e :: es) ma)
    (hbase : attributeBase o name X.env (eval o X.env) = eval o X.env := by rfl)
    (hfew : ((backTo cpos (starEach (e :: es) X.env)).all (fun x => !x.1) && (backToKw cpos (keywordEach [] X.env)).all (fun x => x.1.isSome)
      && decide ((e :: es).length + ([] : List Keyword).length + (if ([] : List Keyword).isEmpty then 0 else 1) < 30)) = true := by rfl)
    (hline : (apos.endLine == cpos.line) = true := by rfl) (h0 : noStar e = true := by rfl) (h1 : es.all noStar = true := by rfl) : SE X (.Call (.Attribute o name apos) (e :: es) [] cpos) (mMe f mo ma) :=
  ⟨me_len ho ha, fun ρ m oo m' q B al σ H Q wd rs h pins s I => (pe_bm PySem.F.plainAttrs_list slot hty hm pe_w pa_w hbase hfew hline (starEach_cons h0) (star_any h1)).run pins s σ H Q I (me_run ho ha q wd rs h)⟩
theorem me_nil {f : Cell → List D → Option (D × Cell)} {o : Expr} {mo : EM} (ho : SE X o mo) {ρ : Slots} {m m' : Mem} {oo : Out W} (q : mMe f mo mNil ρ m = some (oo, m')) {B : Hp} {al : Pl} {σ : L2.St} {H : Hp} {Q : VK}
    (wd : Wd X.K B al m H) (rs : RepS X.K B al m.length σ ρ) (h : AnsE X B al m.length σ Q m' oo) : tBM0 X.K "list" (rMe X f) (wE X o) σ H Q := by
  refine ho.seq q wd rs h.res fun w m1 q1 l1 B1 al1 v1 H1 x1 g1 wd1 r1 => ?_
  cases w with
  | dat d => cases q1
  | hdl k =>
    obtain ⟨rfl, hk⟩ : v1 = .ref (al1 k) ∧ k < m1.length := r1
    dsimp only at q1
    split at q1
    · next zs0 e0 =>
      obtain ⟨_, vs0, h0, _⟩ := wd1.cell k _ e0 rfl
      refine ⟨.inl ⟨rfl, vs0, .inl (.inl h0)⟩, ?_⟩
      obtain ⟨ds, zs, d, c', e1, e2, e3, e4, rfl, rfl⟩ := me_inv (ws := []) (m2 := m1) (k := k) (f := f) q1
      cases e1
      obtain ⟨cb, cc⟩ := wd1.cell k _ e2 rfl
      refine ⟨B1, al1 k, zs, c', [], d, rfl, wd1.ext, cc, .nil, e3, cb, fun o' v hc' rv => ?_⟩
      exact h B1 al1 v _ x1 g1 (wd1.store (o := o') e2 rfl e4 hc') rv
    · cases q1
theorem se_me0 {id : String} {name : Str} {f : Cell → List D → Option (D × Cell)} {o : Expr} {mo : EM} {apos cpos : Pos} (slot : Slot "list" name id) (hty : typeOf (.builtin id) = pure (.type "method_descriptor")) (hm : MtR X id (rMe X f)) (ho : SE X o mo)
    (hbase : attributeBase o name X.env (eval o X.env) = eval o X.env := by rfl) (hline : (apos.endLine == cpos.line) = true := by rfl) : SE X (.Call (.Attribute o name apos) [] [] cpos) (mMe f mo mNil) :=
  ⟨me_len ho sa_nil, fun ρ m oo m' q B al σ H Q wd rs h pins s I => (pe_bm0 PySem.F.plainAttrs_list slot hty hm pe_w hbase hline).run pins s σ H Q I (me_nil ho q wd rs h)⟩
end
end Dm
/-! Dm, part 18: slices. -/
namespace Dm
open PySem PySem.Spec PyProof.Rows L2
open Evl (Ex)
def cutD (ds : List D) (lo hi : Option Int) : List D := (ds.drop (HT.sIx ds.length 0 lo)).take (HT.sIx ds.length ds.length hi - HT.sIx ds.length 0 lo)
def fSl (x : D) (lo hi : Option Int) : Option D := match x with
  | .lst ds => some (.lst (cutD ds lo hi))
  | .tup ds => some (.tup (cutD ds lo hi))
  | .str z => if z.length ≤ LIM then some (.str (cutS z lo hi)) else none
  | _ => none
/-- a part of a slice -/
abbrev OM := Slots → Mem → Option (Option Int × Mem)
def oNone : OM := fun _ m => some (none, m)
def oSome (me : EM) : OM := fun ρ m => match me ρ m with
  | some (.ok (.dat (.int i)), m1) => some (some i, m1)
  | _ => none
structure SO (X : Cx) (e : Option Expr) (mo : OM) : Prop where
  ex : ∃ t, PO X e t ∧ (∀ ρ m o m', mo ρ m = some (o, m') → m.length ≤ m'.length) ∧ ∀ ρ m o m', mo ρ m = some (o, m') → ∀ B al σ H Q, Wd X.K B al m H → RepS X.K B al m.length σ ρ →
    (∀ B' al' H', Ex B B' → Agr m.length al al' → Wd X.K B' al' m' H' → Q o H') → t σ H Q
section
variable {X : Cx}
theorem so_none : SO X none oNone := ⟨tNoPart, po_none, fun ρ m o m' q => by cases q; exact Nat.le_refl _, fun ρ m o m' q B al σ H Q wd rs h => by
  cases q
  exact h B al H (Ex.refl B) Agr.refl wd⟩
theorem oSome_eq {me : EM} {ρ : Slots} {m m' : Mem} {o : Option Int} (q : oSome me ρ m = some (o, m')) : ∃ i, me ρ m = some (.ok (.dat (.int i)), m') ∧ o = some i := by
  unfold oSome at q
  split at q
  · next i m1 e => cases q; exact ⟨i, e, rfl⟩
  · cases q
theorem so_some {e : Expr} {me : EM} (he : SE X e me) : SO X (some e) (oSome me) := ⟨_, po_some (pe_w (X := X)), fun ρ m o m' q => by
  obtain ⟨i, e, _⟩ := oSome_eq q
  exact he.len _ _ _ _ e, fun ρ m o m' q B al σ H Q wd rs h => by
  obtain ⟨i, e, rfl⟩ := oSome_eq q
  refine he.run _ _ _ _ e B al σ H _ wd rs fun B1 al1 v1 H1 x1 g1 wd1 r1 => ?_
  cases (r1 : Rep X.K B1 v1 (.int i))
  exact ⟨i, rfl, h B1 al1 H1 x1 g1 wd1⟩⟩
def rSD (X : Cx) : V → Option Int → Option Int → Hp → VK → Prop := fun x lo hi H Q => ∃ (B : Hp) (dx d : D), Ex B H ∧ Vw X.K B H x dx ∧ fSl dx lo hi = some d ∧ ∀ B' v H', Gr B B' H H' → Rep X.K B' v d → Q v H'
theorem cut_rep {K : PySem.W.Frag} {B : Hp} {vs : List V} {ds : List D} {lo hi : Option Int} (r : Reps K B vs ds) : Reps K B (cutV vs lo hi) (cutD ds lo hi) := by
  unfold cutV cutD
  rw [r.length]
  exact (r.drop _).take _
theorem cut_whole {ds : List D} {lo hi : Option Int} (h : HT.sIx ds.length 0 lo = 0 ∧ HT.sIx ds.length ds.length hi = ds.length) : cutD ds lo hi = ds := by
  unfold cutD
  rw [h.1, h.2]
  simp
theorem sl_dd : SlR X (rSD X) := by
  rintro pins s σ H x v vl vu lo hi sl Q I rx hs pl pu ⟨B, dx, d, e, hx, hf, k⟩
  cases dx with
  | lst ds =>
    cases hf
    obtain ⟨a, vs, rfl, q, r⟩ := hx
    refine sl_list pins s σ H _ v vl vu lo hi sl Q I rx hs pl pu ⟨a, vs, rfl, q, fun p hp => ?_⟩
    obtain ⟨g, rr⟩ := lay_lst e hp (cut_rep (lo := lo) (hi := hi) r)
    exact k _ _ _ g rr
  | tup ds =>
    cases hf
    obtain ⟨a, vs, rfl, q, r⟩ := hx
    refine sl_tupA pins s σ H _ v vl vu lo hi sl Q I rx hs pl pu ⟨a, vs, rfl, q.1, fun h => ?_, fun _ p hp => ?_⟩
    · rw [r.length] at h
      exact k B _ H (Gr.refl e) (by rw [cut_whole h]; exact .tup q.2 r)
    · obtain ⟨g, rr⟩ := lay_tup e hp (cut_rep (lo := lo) (hi := hi) r)
      exact k _ _ _ g rr
  | str z =>
    have hf' : (if z.length ≤ LIM then some (D.str (cutS z lo hi)) else none) = some d := hf
    split at hf'
    · next hl =>
      cases hf'
      obtain rfl := vw_str hx
      exact sl_str pins s σ H _ v vl vu lo hi sl Q I rx hs pl pu ⟨z, rfl, lim_ok hl, k B _ H (Gr.refl e) (.str _)⟩
    · cases hf'
  | _ => cases hf
def mSl (me : EM) (ml mh : OM) : EM := fun ρ m => bnd (me ρ m) fun x m1 => match ml ρ m1 with
  | some (lo, m2) => (match mh ρ m2 with
    | some (hi, m3) => (match view m3 x with
      | some dx => (match fSl dx lo hi with
        | some d => some (.ok (.dat d), m3)
        | none => none)
      | none => none)
    | none => none)
  | none => none
theorem sl_inv {x : W} {ml mh : OM} {ρ : Slots} {m1 m' : Mem} {o : Out W} (q : (match ml ρ m1 with
  | some (lo, m2) => (match mh ρ m2 with
    | some (hi, m3) => (match view m3 x with
      | some dx => (match fSl dx lo hi with
        | some d => (some (.ok (.dat d), m3) : Run W)
        | none => none)
      | none => none)
    | none => none)
  | none => none) = some (o, m')) : ∃ lo m2 hi dx d, ml ρ m1 = some (lo, m2) ∧ mh ρ m2 = some (hi, m') ∧ view m' x = some dx ∧ fSl dx lo hi = some d ∧ o = .ok (.dat d) := by
  split at q
  · next lo m2 e1 =>
    split at q
    · next hi m3 e2 =>
      split at q
      · next dx e3 =>
        split at q
        · next d e4 => cases q; exact ⟨lo, m2, hi, dx, d, e1, e2, e3, e4, rfl⟩
        · cases q
      · cases q
    · cases q
  · cases q
theorem se_sl {e : Expr} {lo hi : Option Expr} {me : EM} {ml mh : OM} {pos p2 : Pos} (he : SE X e me) (hl : SO X lo ml) (hh : SO X hi mh) : SE X (.Subscript e (.Slice lo hi none p2) pos) (mSl me ml mh) := by
  obtain ⟨tl, pl, ll, rl⟩ := hl.ex
  obtain ⟨th, ph, lh, rh⟩ := hh.ex
  refine ⟨fun ρ m o m' q => bnd_len q (he.len ρ m) fun x m1 q1 => ?_, fun ρ m o m' q B al σ H Q wd rs h pins s I => (pe_slice sl_dd pe_w pl ph).run pins s σ H Q I ?_⟩
  · obtain ⟨_, _, _, _, _, e1, e2, _⟩ := sl_inv q1
    exact Nat.le_trans (ll _ _ _ _ e1) (lh _ _ _ _ e2)
  · refine he.seq q wd rs h.res fun x m1 q1 l1 B1 al1 v1 H1 x1 g1 wd1 r1 => ?_
    obtain ⟨lo', m2, hi', dx, d, e1, e2, e3, e4, rfl⟩ := sl_inv q1
    have l2 := ll _ _ _ _ e1
    have l3 := lh _ _ _ _ e2
    refine rl _ _ _ _ e1 B1 al1 σ H1 _ wd1 (rs.mono x1 g1 l1) fun B2 al2 H2 x2 g2 wd2 => ?_
    refine rh _ _ _ _ e2 B2 al2 σ H2 _ wd2 ((rs.mono x1 g1 l1).mono x2 g2 l2) fun B3 al3 H3 x3 g3 wd3 => ?_
    refine ⟨B3, dx, d, wd3.ext, wd3.view ((r1.mono x2 g2 l2).mono x3 g3 l3) e3, e4, fun B4 v4 H4 g4 r4 => ?_⟩
    exact h B4 al3 v4 H4 (((x1.trans x2).trans x3).trans g4.b) ((g1.trans g2 l1).trans g3 (Nat.le_trans l1 l2)) (wd3.grow g4) r4
end
end Dm
/-! Dm, part 19: sorted of lists. -/
namespace Dm
open PySem PySem.Spec PyProof.Rows L2
open Evl (Ex)
def alikeB (ds : List D) : Bool := ds.all fun d => ds.all fun e => PySem.W.alike (py d) (py e)
def tupB : D → Bool
  | .tup (_ :: _) => true
  | _ => false
def othB : D → Bool
  | .non => false
  | .tup _ => false
  | _ => true
def sortD (ds : List D) : List D := ds.mergeSort (PySem.W.dataLe false py)
def fSorted : List D → Option D
  | [.lst ds] => if ds.all (plD 57) = true ∧ alikeB ds = true ∧ (ds.all tupB = true ∨ ds.all othB = true) then some (.lst (sortD ds)) else none
  | _ => none
section
variable {X : Cx} {pins : List (Addr × Obj)} {σ : L2.St} {H : Hp} {s : Shared}
theorem each_reads (I : Inv X pins σ H s) (hm : ∃ mm, X.base.Ns sysModules mm) : ∀ {vs : List V} {ds : List D} {us : List Value}, Reps X.K H vs ds → ds.all (plD 57) = true → Vals vs us → PySem.W.EachIs (fun u d => ∃ as, Reads s.heap u (py d) as) us ds
  | _, _, _, .nil, _, r => by cases r; exact .nil
  | _, _, _, .cons q qs, h, r => by
    cases r with
    | cons r1 r2 =>
      rw [List.all_cons, Bool.and_eq_true] at h
      obtain ⟨as, ra, _⟩ := q.reads I hm (n := 57) (.inl h.1) r1
      exact .cons ⟨as, ra⟩ (each_reads I hm qs h.2 r2)
theorem each_rep {K : PySem.W.Frag} {B : Hp} : ∀ {vs : List V} {ds : List D} {us : List Value}, Reps K B vs ds → Vals vs us → PySem.W.EachIs (fun u d => ∃ v, RelV v u ∧ Rep K B v d) us ds
  | _, _, _, .nil, r => by cases r; exact .nil
  | _, _, _, .cons q qs, r => by
    cases r with
    | cons r1 r2 => exact .cons ⟨_, r1, q⟩ (each_rep qs r2)
theorem each_back {K : PySem.W.Frag} {B : Hp} : ∀ {us : List Value} {ds : List D}, PySem.W.EachIs (fun u d => ∃ v, RelV v u ∧ Rep K B v d) us ds → ∃ vs, Vals vs us ∧ Reps K B vs ds
  | _, _, .nil => ⟨[], .nil, .nil⟩
  | _, _, .cons ⟨v, r1, r2⟩ t => let ⟨vs, h1, h2⟩ := each_back t; ⟨v :: vs, .cons r1 h1, .cons r2 h2⟩
end
theorem sortable_of {ds : List D} (hp : ∀ d ∈ ds, plD 57 d = true) (h : ds.all tupB = true ∨ ds.all othB = true) : PySem.W.Sortable (ds.map py) := by
  rcases h with h | h
  · refine .inl fun d hd => ?_
    obtain ⟨b, hb, rfl⟩ := List.mem_map.mp hd
    have := List.all_eq_true.mp h b hb
    cases b with
    | tup es =>
      cases es with
      | nil => cases this
      | cons e r => exact ⟨py e, pys r, rfl⟩
    | _ => cases this
  · refine .inr fun d hd => ?_
    obtain ⟨b, hb, rfl⟩ := List.mem_map.mp hd
    have := List.all_eq_true.mp h b hb
    have nt : ∀ {d : PyData}, d ≠ .none → (∀ xs, d ≠ .tuple xs) → d ≠ .none ∧ ∀ xs, d ≠ .tuple xs := fun a b => ⟨a, b⟩
    have pl := hp b hb
    cases b with
    | non => cases this
    | tup => cases this
    | bl c => exact ⟨fun z => (by cases (show PyData.bool c = .none from z)), fun xs z => (by cases (show PyData.bool c = .tuple xs from z))⟩
    | int c => exact ⟨fun z => (by cases (show PyData.int c = .none from z)), fun xs z => (by cases (show PyData.int c = .tuple xs from z))⟩
    | str c => exact ⟨fun z => (by cases (show PyData.str c = .none from z)), fun xs z => (by cases (show PyData.str c = .tuple xs from z))⟩
    | lst c => exact ⟨fun z => (by cases (show PyData.list (pys c) = .none from z)), fun xs z => (by cases (show PyData.list (pys c) = .tuple xs from z))⟩
    | dct c => cases pl
    | ty c => cases pl
    | cl c => cases pl
    | obj c fs => cases pl
    | exc c fs => cases pl
theorem cd_sorted {X : Cx} (R : Rm X) : CallR X (.builtin "sorted") (rCD X fSorted) := by
  rintro pins s σ H xs us Q I rs ⟨B, ds, d, e, hx, hf, k⟩
  unfold fSorted at hf
  split at hf
  · next zs =>
    split at hf
    · next hc =>
      cases hf
      obtain ⟨x, rfl, a, vs, rfl, q, r⟩ := vwl1 hx
      obtain ⟨its, rv, hl, hz⟩ := I.list q
      rw [Vals.ref1 rs]
      have un := R.un
      have hal : PySem.W.AllAlike (zs.map py) := fun d hd d' hd' => by
        obtain ⟨b, hb, rfl⟩ := List.mem_map.mp hd
        obtain ⟨b', hb', rfl⟩ := List.mem_map.mp hd'
        exact List.all_eq_true.mp (List.all_eq_true.mp hc.2.1 b hb) b' hb'
      have hlen : zs.length ≤ sizeLine := by rw [← r.length]; exact hz
      refine PySem.W.sorted_data (bs := zs) (enc := py) (R := fun u d => ∃ v, RelV v u ∧ Rep X.K B v d) hl.isList (each_rep r rv) (each_reads I R.sm (r.mono e) hc.1 rv) hal (sortable_of (fun d hd => List.all_eq_true.mp hc.1 d hd) hc.2.2) hlen (fun b hb => ?_) fun out ho he => ?_
      · have := (plD_ok 57 b (List.all_eq_true.mp hc.1 b hb)).2
        omega
      · obtain ⟨ws, w1, w2⟩ := each_back he
        obtain ⟨ep, he'⟩ := PyProof.Rows.sortedAll_at s.heap its (List.toArray out)
        have hl2 : ws.length ≤ sizeLine := by rw [w1.length, ho]; exact hlen
        refine ⟨.ref _, upd H (s.heap.objs.size + 1) (.lst ws), I.laid (t' := s.toks) (fun _ _ => PyProof.Rows.sortedAll_old) (Nat.le_succ _) ⟨hl2, out, ep, w1, by simpa using he'⟩, rfl, ?_⟩
        obtain ⟨g, rr⟩ := lay_lst e (I.hok.fresh (Nat.le_succ _)) w2
        exact k _ _ _ g rr
    · cases hf
  · cases hf
end Dm
/-! Dm, part 20: own classes: attributes, methods, making. -/
namespace Dm
open PySem PySem.Spec PyProof.Rows L2
open Evl (Ex)
/-! ### o.f -/
def fFld (c : Str) (f : Str) : D → Option D
  | .obj c' fs => if c' = c then fs.lookup f else none
  | _ => none
theorem repF_lookup {K : PySem.W.Frag} {B : Hp} {f : Str} : ∀ {gs : List (Str × V)} {fs : List (Str × D)}, RepF K B gs fs → (fs.lookup f = none ∧ gs.lookup f = none) ∨ ∃ d v, fs.lookup f = some d ∧ gs.lookup f = some v ∧ Rep K B v d
  | _, _, .nil => .inl ⟨rfl, rfl⟩
  | _, _, .cons (x := x) (v := v) (d := d) h t => by
    rw [List.lookup_cons, List.lookup_cons]
    cases e : f == x with
    | true => exact .inr ⟨d, v, rfl, rfl, h⟩
    | false => exact repF_lookup t
theorem se_fld {X : Cx} {e : Expr} {me : EM} {f c : Str} {pos : Pos} (he : SE X e me) (hc : Cls X.K (He.ga X.K c)) (hn : NoAttr X.K (He.ga X.K c) f) (hb : attributeBase e f X.env (eval e X.env) = eval e X.env := by rfl) : SE X (.Attribute e f pos) (mUn (fFld c f) me) := by
  refine ⟨un_len he, fun ρ m o m' q B al σ H Q wd rs h pins s I => (pe_fld pe_w hb).run pins s σ H Q I ?_⟩
  refine un_run (r := fun x H Q => ∃ a C dx fs v, x = .ref a ∧ H a = some (.ins C dx fs) ∧ Cls X.K C ∧ NoAttr X.K C f ∧ fs.lookup f = some v ∧ Q v H) (fun dx d hf B H x e hx Q k => ?_) he q wd rs h
  cases dx with
  | obj c' fs =>
    have hf' : (if c' = c then fs.lookup f else none) = some d := hf
    split at hf'
    · next hcc =>
      subst hcc
      obtain ⟨a, dx, gs, rfl, ha, r⟩ := hx
      rcases repF_lookup (f := f) r with ⟨h1, _⟩ | ⟨d', v, h1, h2, h3⟩
      · rw [h1] at hf'; cases hf'
      · rw [h1] at hf'; cases hf'
        exact ⟨a, _, dx, gs, v, rfl, ha, hc, hn, h2, k B v H (Gr.refl e) h3⟩
    · cases hf'
  | _ => cases hf
/-! ### self.f = e -/
def putD (f : Str) (d : D) (fs : List (Str × D)) : List (Str × D) := if (fs.lookup f).isSome then fs.map fun p => if p.1 = f then (f, d) else p else fs ++ [(f, d)]
/-! ### a def at any place -/
structure DefA (P : Program) (w : World) (K : PySem.W.Frag) (mg : Str → Option Value) (bs : Heap) (a : Addr) (k : Nat) (ps : List Str) (mf : FM) (n : Nat) (ks : List Str) (gW : List W → List W → List W) : Prop where
  ex : ∃ fd, FnG P w K mg bs k a fd ps (spM K ps.length mf) ∧ Bdg K fd ps n ks gW
  len : LenF mf
/-- o.m(e, ..): o an object -/
def mMeth (c m0 : Str) (n : Nat) (gW : List W → List W → List W) (mf : FM) (mo : EM) (ma : AM) : EM := fun ρ m => bnd (mo ρ m) fun w m1 => match view m1 w with
  | some (.obj c' fs) => if c' = c ∧ fs.lookup m0 = none then bnd (ma ρ m1) fun ws m2 => if ws.length = n then cut m.length (mf (gW (w :: ws) []) m2) else none else none
  | _ => none
theorem meth_inv {c m0 : Str} {n : Nat} {gW : List W → List W → List W} {mf : FM} {ma : AM} {ρ : Slots} {m m1 m' : Mem} {w : W} {o : Out W} (q : (match view m1 w with
  | some (.obj c' fs) => if c' = c ∧ fs.lookup m0 = none then bnd (ma ρ m1) fun ws m2 => if ws.length = n then cut m.length (mf (gW (w :: ws) []) m2) else none else none
  | _ => (none : Run W)) = some (o, m')) : ∃ fs, view m1 w = some (.obj c fs) ∧ fs.lookup m0 = none ∧ (bnd (ma ρ m1) fun ws m2 => if ws.length = n then cut m.length (mf (gW (w :: ws) []) m2) else none) = some (o, m') := by
  split at q
  · next c' fs e =>
    split at q
    · next h => obtain ⟨rfl, h2⟩ := h; exact ⟨fs, e, h2, q⟩
    · cases q
  · cases q
section
variable {X : Cx} {o e : Expr} {es : List Expr} {mo : EM} {ma : AM} {c m0 : Str} {j k n : Nat} {ps : List Str} {mf : FM} {gW : List W → List W → List W} {apos pos : Pos}
theorem meth_len (L : LenF mf) (ho : SE X o mo) (ha : ∀ ρ m oo m', ma ρ m = some (oo, m') → m.length ≤ m'.length) : ∀ ρ m oo m', mMeth c m0 n gW mf mo ma ρ m = some (oo, m') → m.length ≤ m'.length := fun ρ m oo m' q => by
  rcases bnd_cases q with ⟨w, m1, e1, q1⟩ | ⟨cc, fs, e1, rfl⟩
  · obtain ⟨fs, _, _, q2⟩ := meth_inv q1
    have l1 := ho.len _ _ _ _ e1
    rcases bnd_cases q2 with ⟨ws, m2, e2, q3⟩ | ⟨cc, fs, e2, rfl⟩
    · have l2 := ha _ _ _ _ e2
      split at q3
      · obtain ⟨m3, e3, h3⟩ := cut_eq q3
        have l3 := L _ _ _ _ e3
        rcases h3 with rfl | ⟨rfl, _⟩
        · omega
        · rw [List.length_take]; omega
      · cases q3
    · exact Nat.le_trans l1 (ha _ _ _ _ e2)
  · exact ho.len _ _ _ _ e1
theorem Vw.obj {K : PySem.W.Frag} {B H : Hp} {v : V} {c : Str} {fs : List (Str × D)} (h : Vw K B H v (.obj c fs)) : ∃ a dx gs, v = .ref a ∧ H a = some (.ins (He.ga K c) dx gs) ∧ RepF K B gs fs := h
theorem se_meth {pl : Sem Bool} (ho : SE X o mo) (ha : SA X (e :: es) ma) (hc : Cls X.K (He.ga X.K c)) (hM : Meth X.K (He.ga X.K c) m0 (He.ma X.K (He.ga X.K c) m0)) (F : DefA X.prog X.w X.K X.mg X.base (He.ma X.K (He.ga X.K c) m0) j ps mf (n + 1) [] gW) (hj : j ≤ k) (hr : Room k X.A) (hG : X.A.guards = some [])
    (h0 : noStar e = true := by rfl) (h1 : es.all noStar = true := by rfl)
    (ht : eval (.Call (.Attribute o m0 apos) (e :: es) [] pos) X.env = (do
      let ov ← eval o X.env
      standAt apos.atName
      let (f, first) ← holding [ov] (getMethod ov m0 pl)
      callWith pos f first (backTo pos (starEach (e :: es) X.env)) (backToKw pos (keywordEach [] X.env))) := by rfl) :
    SE X (.Call (.Attribute o m0 apos) (e :: es) [] pos) (mMeth c m0 n gW mf mo ma) := by
  obtain ⟨fd, G, b⟩ := F.ex
  refine ⟨meth_len F.len ho ha.len, fun ρ m oo m' q B al σ H Q wd rs h pins s I => ?_⟩
  refine PySem.W.methodCall_KW (pl := pl) (thn (ho.seq (Q' := fun x H1 => ∃ a dx gs, x = .ref a ∧ H1 a = some (.ins (He.ga X.K c) dx gs) ∧ gs.lookup m0 = none ∧ wA X (e :: es) σ H1 fun vs H2 => ∀ pins s2 us, Inv X pins σ H2 s2 → Vals vs us → wpAny (model X.prog X.w) X.A (call (.ref (He.ma X.K (He.ga X.K c) m0)) (.ref a :: us)) (EP X pins σ Q) X.xe s2)
    q wd rs h.res (fun w m1 q1 l1 B1 al1 v1 H1 x1 g1 wd1 r1 => ?_) pins s I) fun u s1 ⟨x, H1, I1, rx, a, dx, gs, ex, ea, l, q⟩ => ?_) ht
  · obtain ⟨fs, hv, hl, q2⟩ := meth_inv q1
    obtain ⟨a, dx, gs, rfl, ha', rf⟩ := (wd1.view r1 hv).obj
    have hl' : gs.lookup m0 = none := by
      rcases repF_lookup (f := m0) rf with ⟨_, h2⟩ | ⟨d', v, h1, _⟩
      · exact h2
      · rw [hl] at h1; cases h1
    refine ⟨a, dx, gs, rfl, ha', hl', ?_⟩
    refine ha.seq q2 wd1 (rs.mono x1 g1 l1) (fun c fs z => (h.res c fs z).mono x1 g1 l1) fun ws m2 q3 l2 B2 al2 vs2 H2 x2 g2 wd2 r2 pins s2 us I2 ru => ?_
    split at q3
    · next hlen =>
      have r1' : RepL X.K B2 al2 m2.length (.ref a :: vs2) (w :: ws) := ⟨r1.mono x2 g2 l2, r2⟩
      exact call_run (kv := []) (zs := []) (us := []) (vs := .ref a :: vs2) (ws := w :: ws) (uv := .ref a :: us) (G.mono hj) hr hG b h (Nat.le_trans l1 l2) (x1.trans x2) (g1.trans g2 l1) wd2 r1' trivial (by rw [List.length_cons, hlen]) rfl q3 F.len I2 (.cons rfl ru) .nil
    · cases q3
  · subst ex
    obtain rfl : u = Value.ref a := rx
    refine getmeth_ok I1 ea hc hM l ?_
    exact PySem.W.callWith_K (first := [.ref a]) (h₀ := X.base) I1.ok.mod.kin hM.kp (thn (q pos pins s1 I1) fun us s2 ⟨vs, H2, I2, r, q2⟩ => ⟨I2.kIn, q2 pins s2 us I2 r⟩) (starEach_cons h0) (star_any h1)
theorem se_meth0 {pl : Sem Bool} (ho : SE X o mo) (hc : Cls X.K (He.ga X.K c)) (hM : Meth X.K (He.ga X.K c) m0 (He.ma X.K (He.ga X.K c) m0)) (F : DefA X.prog X.w X.K X.mg X.base (He.ma X.K (He.ga X.K c) m0) j ps mf 1 [] gW) (hj : j ≤ k) (hr : Room k X.A) (hG : X.A.guards = some [])
    (ht : eval (.Call (.Attribute o m0 apos) [] [] pos) X.env = (do
      let ov ← eval o X.env
      standAt apos.atName
      let (f, first) ← holding [ov] (getMethod ov m0 pl)
      callWith pos f first (backTo pos (starEach [] X.env)) (backToKw pos (keywordEach [] X.env))) := by rfl) :
    SE X (.Call (.Attribute o m0 apos) [] [] pos) (mMeth c m0 0 gW mf mo mNil) := by
  obtain ⟨fd, G, b⟩ := F.ex
  refine ⟨meth_len F.len ho (sa_nil (X := X)).len, fun ρ m oo m' q B al σ H Q wd rs h pins s I => ?_⟩
  refine PySem.W.methodCall_KW (pl := pl) (thn (ho.seq (Q' := fun x H1 => ∃ a dx gs, x = .ref a ∧ H1 a = some (.ins (He.ga X.K c) dx gs) ∧ gs.lookup m0 = none ∧ ∀ pins s2, Inv X pins σ H1 s2 → wpAny (model X.prog X.w) X.A (call (.ref (He.ma X.K (He.ga X.K c) m0)) [.ref a]) (EP X pins σ Q) X.xe s2)
    q wd rs h.res (fun w m1 q1 l1 B1 al1 v1 H1 x1 g1 wd1 r1 => ?_) pins s I) fun u s1 ⟨x, H1, I1, rx, a, dx, gs, ex, ea, l, q⟩ => ?_) ht
  · obtain ⟨fs, hv, hl, q2⟩ := meth_inv q1
    obtain ⟨a, dx, gs, rfl, ha', rf⟩ := (wd1.view r1 hv).obj
    have hl' : gs.lookup m0 = none := by
      rcases repF_lookup (f := m0) rf with ⟨_, h2⟩ | ⟨d', v, h1, _⟩
      · exact h2
      · rw [hl] at h1; cases h1
    refine ⟨a, dx, gs, rfl, ha', hl', fun pins s2 I2 => ?_⟩
    have q3 : cut m.length (mf (gW [w] []) m1) = some (oo, m') := q2
    have r1' : RepL X.K B1 al1 m1.length [.ref a] [w] := ⟨r1, trivial⟩
    exact call_run (kv := []) (zs := []) (us := []) (vs := [.ref a]) (ws := [w]) (uv := [.ref a]) (G.mono hj) hr hG b h l1 x1 g1 wd1 r1' trivial rfl rfl q3 F.len I2 (.cons rfl .nil) .nil
  · subst ex
    obtain rfl : u = Value.ref a := rx
    refine getmeth_ok I1 ea hc hM l ?_
    exact PySem.W.callWith_K0 (first := [.ref a]) I1.kIn hM.kp (q pins s1 I1)
end
end Dm
/-! Dm, part 21: self.f = e; making an instance. -/
namespace Dm
open PySem PySem.Spec PyProof.Rows L2
open Evl (Ex)
/-! ### C(e, ..): the new instance is data when its __init__ is done -/
def mkEnd (k n : Nat) (x : Run W) : Run W := match x with
  | some (.ok (.dat .non), m2) => (match m2[k]? with
    | some (.obj c fs) => some (.ok (.dat (.obj c fs)), (m2.set k .dead).take n)
    | _ => none)
  | some (.ex c fs, m2) => some (.ex c fs, m2.take n)
  | _ => none
theorem mkEnd_inv {k n : Nat} {x : Run W} {o : Out W} {m' : Mem} (q : mkEnd k n x = some (o, m')) : (∃ m2 c fs, x = some (.ok (.dat .non), m2) ∧ m2[k]? = some (.obj c fs) ∧ o = .ok (.dat (.obj c fs)) ∧ m' = (m2.set k .dead).take n) ∨ ∃ c fs m2, x = some (.ex c fs, m2) ∧ o = .ex c fs ∧ m' = m2.take n := by
  unfold mkEnd at q
  split at q
  · next m2 =>
    split at q
    · next c fs e => cases q; exact .inl ⟨m2, c, fs, rfl, e, rfl, rfl⟩
    · cases q
  · next c fs m2 => cases q; exact .inr ⟨c, fs, m2, rfl, rfl, rfl⟩
  · cases q
def mMake (c : Str) (n nk : Nat) (gW : List W → List W → List W) (mf : FM) (ma mk : AM) : EM := fun ρ m => bnd (ma ρ m) fun ws m1 => bnd (mk ρ m1) fun us m2 => if ws.length = n ∧ us.length = nk then mkEnd m2.length m.length (mf (gW (.hdl m2.length :: ws) us) (m2 ++ [.obj c []])) else none
theorem under_guards {A : Around} {C : Addr} {us : List Value} {kw : List (Str × Value)} (h : A.guards = some []) : (A.under (.builtin "type.__call__" ⟨.ref C :: us, kw⟩)).guards = some [] := by
  first | exact h | simpa [Around.under, Code.weight, Code.isCreation, Code.isGuard, Code.isCaller, Code.frames, Code.isFrame, guardIds] using h
section
variable {X : Cx}
theorem make_run {k n : Nat} {c : Str} {f : Addr} {fd : FuncData} {ps ks : List Str} {mf : FM} {gW : List W → List W → List W} (M : Mk X.K (He.ga X.K c) f) (F : FnG X.prog X.w X.K X.mg X.base k f fd ps (spM X.K ps.length mf)) (hr : Room (k + 1) X.A) (hG : X.A.guards = some []) (hb : Bdg X.K fd ps (n + 1) ks gW)
    {B B2 : Hp} {al al2 : Pl} {m m2 m' : Mem} {σ : L2.St} {H2 : Hp} {Q : VK} {o : Out W} (h : AnsE X B al m.length σ Q m' o) (l : m.length ≤ m2.length) (e2 : Ex B B2) (g2 : Agr m.length al al2) (wd2 : Wd X.K B2 al2 m2 H2) {vs zs : List V} {ws us : List W}
    (r1 : RepL X.K B2 al2 m2.length vs ws) (r2 : RepL X.K B2 al2 m2.length zs us) (hl1 : ws.length = n) (hl2 : us.length = ks.length) (q : mkEnd m2.length m.length (mf (gW (.hdl m2.length :: ws) us) (m2 ++ [.obj c []])) = some (o, m')) (L : LenF mf)
    {pins : List (Addr × Obj)} {s : Shared} (I : Inv X pins σ H2 s) {uv kv : List Value} (rv : Vals vs uv) (rk : Vals zs kv) : wpAny (model X.prog X.w) X.A (call (.ref (He.ga X.K c)) uv (ks.zip kv)) (EP X pins σ Q) X.xe s := by
  obtain ⟨g, gV, hbn, hvl, hrel⟩ := hb.ex
  have lv : vs.length = n := r1.length.trans hl1
  have lz : zs.length = ks.length := r2.length.trans hl2
  have I2 := Inv.made (C := He.ga X.K c) I
  have hx := I.hok.fresh (Nat.le_succ s.heap.objs.size)
  have hdx := I.hok.fresh (Nat.le_refl s.heap.objs.size)
  have ne : s.heap.objs.size ≠ s.heap.objs.size + 1 := Nat.ne_of_lt (Nat.lt_succ_self _)
  -- the memory with the new instance
  have wd3 := wd2.grow (Gr.by (o := .own (s.heap.objs.size + 1)) wd2.ext hdx)
  have hx3 : upd H2 s.heap.objs.size (.own (s.heap.objs.size + 1)) (s.heap.objs.size + 1) = none := by rw [upd_ne ne.symm]; exact hx
  obtain ⟨wd4, a4⟩ := wd3.alloc (p := s.heap.objs.size + 1) (o := .ins (He.ga X.K c) s.heap.objs.size []) (c := .obj c []) hx3 ⟨_, _, upd_same, .nil⟩
  have ll : (m2 ++ [Cell.obj c []]).length = m2.length + 1 := by simp
  have rS : RepL X.K B2 (alx al2 m2.length (s.heap.objs.size + 1)) (m2 ++ [Cell.obj c []]).length (.ref (s.heap.objs.size + 1) :: vs) (.hdl m2.length :: ws) := ⟨⟨by rw [alx_here], by rw [ll]; omega⟩, r1.mono (Ex.refl _) a4 (by rw [ll]; omega)⟩
  have rZ : RepL X.K B2 (alx al2 m2.length (s.heap.objs.size + 1)) (m2 ++ [Cell.obj c []]).length zs us := r2.mono (Ex.refl _) a4 (by rw [ll]; omega)
  have rv' : Vals (V.ref (s.heap.objs.size + 1) :: vs) (Value.ref (s.heap.objs.size + 1) :: uv) := Paired.cons (show RelV (V.ref (s.heap.objs.size + 1)) (Value.ref (s.heap.objs.size + 1)) from rfl) rv
  have rr := hbn.rel rv' rk
  have lvn : (V.ref (s.heap.objs.size + 1) :: vs).length = n + 1 := congrArg (· + 1) lv
  have hlen : (gV (.ref (s.heap.objs.size + 1) :: vs) zs).length = ps.length := hvl _ _ lvn lz
  have bt := hbn.to { s with heap := (s.heap.push PySem.W.emptyDict).push (PySem.W.instObj (He.ga X.K c) s.heap.objs.size) } (.ref (s.heap.objs.size + 1) :: uv) kv I2.kIn (by rw [List.length_cons, ← rv.length, lv]) (rk.length.symm.trans lz)
  have rW := hrel B2 _ _ _ _ _ _ lvn lz rS rZ
  refine wpAny_call (make_map (f := f) I.kIn M.makes M.init (beq_iff_eq.mp M.fn) ?_)
  rcases mkEnd_inv q with ⟨m3, c', fs, e3, e4, rfl, rfl⟩ | ⟨c', fs, m3, e3, rfl, rfl⟩
  · have l3 := L _ _ _ _ e3
    refine codeAny_mono (F.run _ X.stack _ _ ⟨Value.ref (s.heap.objs.size + 1) :: uv, ks.zip kv⟩ _ _ (fun v H3 => v = .non ∧ Q (.ref (s.heap.objs.size + 1)) H3) E0 (under_guards hG) (hr.make _ uv _) (I2.env0.make _ uv _) bt rr
      ⟨hlen, B2, _, _, _, _, m3, e3, wd4, rW, fun B3 al3 v3 H3 x3 g3 wd5 r5 => ?_⟩) fun r s' hq => ?_
    · cases (r5 : Rep X.K B3 v3 .non)
      refine ⟨rfl, ?_⟩
      obtain ⟨B6, x6, w6, rep6⟩ := wd5.kill e4 rfl
      have ea : al3 m2.length = s.heap.objs.size + 1 := by rw [g3.at_ m2.length (by rw [ll]; omega), alx_here]
      rw [ea] at rep6
      have gg : Agr m.length al al3 := g2.trans (a4.trans ⟨fun k hk => g3.at_ k (by rw [ll]; omega), g3.fr⟩ (Nat.le_refl _)) l
      exact h B6 al3 _ H3 ((e2.trans x3).trans x6) gg (w6.take _) rep6
    · cases r with
      | error er => exact (passL pins _ _ _ er s' I2 hq)
      | ok fl =>
        cases fl with
        | ret u =>
          obtain ⟨v, H', I3, rv3, ev, q3⟩ := I2.after hq
          subst ev
          exact ⟨rv3, ⟨V.ref (s.heap.objs.size + 1), H', I3, rfl, q3⟩⟩
        | next => exact False.elim hq
        | brk => exact False.elim hq
        | cont => exact False.elim hq
  · obtain ⟨Wx, tk, ha⟩ := h
    refine codeAny_mono (F.run _ X.stack _ _ ⟨Value.ref (s.heap.objs.size + 1) :: uv, ks.zip kv⟩ _ _ (fun v H3 => v = .non ∧ Q (.ref (s.heap.objs.size + 1)) H3) (fun cls oa H' => Wx cls oa σ H') (under_guards hG) (hr.make _ uv _) (I2.env0.make _ uv _) bt rr
      ⟨hlen, B2, _, _, _, _, m3, e3, wd4, rW, fun B3 al3 cls oa H3 x3 g3 wd5 r5 => ?_⟩) fun r s' hq => ?_
    · have gg : Agr m.length al al3 := g2.trans (a4.trans ⟨fun k hk => g3.at_ k (by rw [ll]; omega), g3.fr⟩ (Nat.le_refl _)) l
      exact ha B3 al3 cls oa H3 (e2.trans x3) gg (wd5.take _) r5
    · cases r with
      | error er => exact tk er s' (XE.of_call I2 (fun cls oa H' z => z) hq)
      | ok fl =>
        cases fl with
        | ret u =>
          obtain ⟨v, H', I3, rv3, ev, q3⟩ := I2.after hq
          subst ev
          exact ⟨rv3, ⟨V.ref (s.heap.objs.size + 1), H', I3, rfl, q3⟩⟩
        | next => exact False.elim hq
        | brk => exact False.elim hq
        | cont => exact False.elim hq
end
end Dm
/-! Dm, part 22: self.f = e; C(e, ..). -/
namespace Dm
open PySem PySem.Spec PyProof.Rows L2
open Evl (Ex)
/-! ### self.f = e -/
def putO (f : Str) (d : D) : List (Str × D) → List (Str × D)
  | [] => [(f, d)]
  | (g, x) :: r => if g = f then (g, d) :: r else (g, x) :: putO f d r
theorem putO_rep {K : PySem.W.Frag} {B : Hp} {f : Str} {v : V} {d : D} (r : Rep K B v d) : ∀ {gs : List (Str × V)} {fs : List (Str × D)}, RepF K B gs fs → RepF K B (putF f v gs) (putO f d fs)
  | _, _, .nil => .cons r .nil
  | _, _, .cons (x := x) h t => by
    unfold putF putO
    by_cases e : x = f
    · rw [if_pos e, if_pos e]; exact .cons r t
    · rw [if_neg e, if_neg e]; exact .cons h (putO_rep r t)
theorem repF_len {K : PySem.W.Frag} {B : Hp} : ∀ {gs : List (Str × V)} {fs : List (Str × D)}, RepF K B gs fs → gs.length = fs.length
  | _, _, .nil => rfl
  | _, _, .cons _ t => congrArg (· + 1) (repF_len t)
def sPut (c f : Str) (mo me : EM) : SM := fun ρ m => sbd (me ρ m) ρ fun w m1 => match w with
  | .dat v => (match mo ρ m1 with
    | some (.ok (.hdl k), m2) => (match m2[k]? with
      | some (.obj c' fs) => if c' = c ∧ fs.length < 1000 then some (.nx ρ, m2.set k (.obj c (putO f v fs))) else none
      | _ => none)
    | _ => none)
  | _ => none
theorem put_cases {c f : Str} {mo : EM} {w : W} {ρ : Slots} {m1 m' : Mem} {fl : Fl} (q : (match w with
  | .dat v => (match mo ρ m1 with
    | some (.ok (.hdl k), m2) => (match m2[k]? with
      | some (.obj c' fs) => if c' = c ∧ fs.length < 1000 then some (.nx ρ, m2.set k (.obj c (putO f v fs))) else none
      | _ => none)
    | _ => none)
  | _ => (none : SR)) = some (fl, m')) : ∃ v k m2 fs, w = .dat v ∧ mo ρ m1 = some (.ok (.hdl k), m2) ∧ m2[k]? = some (.obj c fs) ∧ fs.length < 1000 ∧ fl = .nx ρ ∧ m' = m2.set k (.obj c (putO f v fs)) := by
  split at q
  · next v =>
    split at q
    · next k m2 e1 =>
      split at q
      · next c' fs e2 =>
        split at q
        · next h => obtain ⟨rfl, h2⟩ := h; cases q; exact ⟨v, k, m2, fs, rfl, e1, e2, h2, rfl, rfl⟩
        · cases q
      · cases q
    · cases q
  · cases q
section
variable {X : Cx} {o value : Expr} {mo me : EM} {f c : Str} {pos pos' : Pos}
theorem ss_fld (ho : SE X o mo) (hv : SE X value me) (hc : Cls X.K (He.ga X.K c)) (hn : NoAttr X.K (He.ga X.K c) f) (hs : swapsWith value (some (.Attribute o f pos')) pos.line X.env = pure false) : SS X (.Assign [.Attribute o f pos'] value pos) (sPut c f mo me) := by
  refine ⟨fun ρ m fl m' q => sbd_len q (hv.len ρ m) fun w m1 q1 => ?_, fun ρ m fl m' q B al σ H D wd rs h pins s I => (ps_fld pe_w pe_w hs).run pins s σ H D I ?_⟩
  · obtain ⟨v, k, m2, fs, _, e1, _, _, _, rfl⟩ := put_cases q1
    rw [set_len]; exact ho.len _ _ _ _ e1
  · refine hv.ssq q wd rs h fun w m1 q1 l1 B1 al1 v1 H1 x1 g1 wd1 r1 => ?_
    obtain ⟨d, k, m2, fs, rfl, e1, e2, hl, rfl, rfl⟩ := put_cases q1
    refine ho.run ρ m1 _ m2 e1 B1 al1 σ H1 _ wd1 (rs.mono x1 g1 l1) fun B2 al2 v2 H2 x2 g2 wd2 r2 => ?_
    have l2 := ho.len _ _ _ _ e1
    obtain ⟨rfl, hk⟩ : v2 = .ref (al2 k) ∧ k < m2.length := r2
    obtain ⟨hb, dx, gs, ha, rf⟩ := wd2.cell k _ e2 rfl
    refine ⟨al2 k, _, dx, gs, rfl, ha, hc, hn, by rw [repF_len rf]; exact hl, ?_⟩
    have rv : Rep X.K B2 v1 d := Rep.mono x2 r1
    have wd3 := wd2.store (o := .ins (He.ga X.K c) dx (putF f v1 gs)) (c' := .obj c (putO f d fs)) e2 rfl rfl ⟨dx, _, upd_same, putO_rep rv rf⟩
    exact h B2 al2 _ _ (x1.trans x2) (g1.trans g2 l1) wd3 (by rw [set_len]; exact (rs.mono x1 g1 l1).mono x2 g2 l2)
end
/-! ### C(e, ..) -/
section
variable {X : Cx} {c : Str} {e : Expr} {es : List Expr} {kws : List Keyword} {ma mk : AM} {p pos : Pos} {j k n : Nat} {ps ks : List Str} {mf : FM} {gW : List W → List W → List W}
theorem mkEnd_len {k n : Nat} {x : Run W} {o : Out W} {m' : Mem} (hk : n ≤ k) (hl : ∀ o1 m1, x = some (o1, m1) → k < m1.length) (q : mkEnd k n x = some (o, m')) : n ≤ m'.length := by
  rcases mkEnd_inv q with ⟨m2, c, fs, e, _, _, rfl⟩ | ⟨c, fs, m2, e, _, rfl⟩
  · have := hl _ _ e; rw [List.length_take, set_len]; omega
  · have := hl _ _ e; rw [List.length_take]; omega
theorem make_len (L : LenF mf) (ha : ∀ ρ m oo m', ma ρ m = some (oo, m') → m.length ≤ m'.length) (hw : ∀ ρ m oo m', mk ρ m = some (oo, m') → m.length ≤ m'.length) : ∀ ρ m oo m', mMake c n ks.length gW mf ma mk ρ m = some (oo, m') → m.length ≤ m'.length := fun ρ m oo m' q => by
  rcases bnd_cases q with ⟨ws, m1, e1, q1⟩ | ⟨cc, fs, e1, rfl⟩
  · have l1 := ha _ _ _ _ e1
    rcases bnd_cases q1 with ⟨us, m2, e2, q2⟩ | ⟨cc, fs, e2, rfl⟩
    · have l2 := hw _ _ _ _ e2
      split at q2
      · refine mkEnd_len (Nat.le_trans l1 l2) (fun o1 m3 e3 => ?_) q2
        have := L _ _ _ _ e3
        simp at this; omega
      · cases q2
    · exact Nat.le_trans l1 (hw _ _ _ _ e2)
  · exact ha _ _ _ _ e1
theorem se_make (M : Mk X.K (He.ga X.K c) (He.ma X.K (He.ga X.K c) "__init__")) (F : DefA X.prog X.w X.K X.mg X.base (He.ma X.K (He.ga X.K c) "__init__") j ps mf (n + 1) [] gW) (hj : j ≤ k) (hr : Room (k + 1) X.A) (hG : X.A.guards = some []) (hg : Gl X c) (hm : X.mg c = some (.ref (He.ga X.K c)))
    (ha : SA X (e :: es) ma) (h0 : noStar e = true := by rfl) (h1 : es.all noStar = true := by rfl) (hdb : (c == ("__debug__" : Str)) = false := by decide) : SE X (.Call (.Name c p) (e :: es) [] pos) (mMake c n 0 gW mf ma mNil) := by
  obtain ⟨fd, G, b⟩ := F.ex
  refine ⟨make_len (ks := []) F.len ha.len (sk_nil (X := X)).len, fun ρ m o m' q B al σ H Q wd rs h pins s I => ?_⟩
  refine wpAny_Call_Name_kw (ld_glob I hg hm ?_ hdb)
  refine PySem.W.callWith_K (h₀ := X.base) I.ok.mod.kin M.kp (thn (ha.seq (Q' := fun vs H1 => ∀ pins s1 us, Inv X pins σ H1 s1 → Vals vs us → wpAny (model X.prog X.w) X.A (call (.ref (He.ga X.K c)) us) (EP X pins σ Q) X.xe s1) q wd rs h.res (fun ws m1 q1 l1 B1 al1 vs1 H1 e1 g1 wd1 r1 pins s1 us I1 ru => ?_) pos pins s I)
    fun us s1 ⟨vs, H1, I1, r, q⟩ => ⟨I1.kIn, q pins s1 us I1 r⟩) (starEach_cons h0) (star_any h1)
  have q2 : (if ws.length = n ∧ ([] : List W).length = 0 then mkEnd m1.length m.length (mf (gW (.hdl m1.length :: ws) []) (m1 ++ [.obj c []])) else none) = some (o, m') := q1
  split at q2
  · next hl => exact make_run (ks := []) (kv := []) (zs := []) (us := []) M (G.mono hj) hr hG b h l1 e1 g1 wd1 r1 trivial hl.1 rfl q2 F.len I1 ru .nil
  · cases q2
theorem se_make0 (M : Mk X.K (He.ga X.K c) (He.ma X.K (He.ga X.K c) "__init__")) (F : DefA X.prog X.w X.K X.mg X.base (He.ma X.K (He.ga X.K c) "__init__") j ps mf 1 [] gW) (hj : j ≤ k) (hr : Room (k + 1) X.A) (hG : X.A.guards = some []) (hg : Gl X c) (hm : X.mg c = some (.ref (He.ga X.K c)))
    (hdb : (c == ("__debug__" : Str)) = false := by decide) : SE X (.Call (.Name c p) [] [] pos) (mMake c 0 0 gW mf mNil mNil) := by
  obtain ⟨fd, G, b⟩ := F.ex
  refine ⟨make_len (ks := []) F.len (sa_nil (X := X)).len (sk_nil (X := X)).len, fun ρ m o m' q B al σ H Q wd rs h pins s I => ?_⟩
  refine wpAny_Call_Name_kw (ld_glob I hg hm ?_ hdb)
  refine PySem.W.callWith_K0 I.kIn M.kp ?_
  have q2 : mkEnd m.length m.length (mf (gW [.hdl m.length] []) (m ++ [.obj c []])) = some (o, m') := q
  exact make_run (n := 0) (ks := []) (uv := []) (vs := []) (ws := []) (kv := []) (zs := []) (us := []) M (G.mono hj) hr hG b h (Nat.le_refl _) (Ex.refl B) Agr.refl wd trivial trivial rfl rfl q2 F.len I .nil .nil
theorem se_makeK (M : Mk X.K (He.ga X.K c) (He.ma X.K (He.ga X.K c) "__init__")) (F : DefA X.prog X.w X.K X.mg X.base (He.ma X.K (He.ga X.K c) "__init__") j ps mf (n + 1) ks gW) (hj : j ≤ k) (hr : Room (k + 1) X.A) (hG : X.A.guards = some []) (hg : Gl X c) (hm : X.mg c = some (.ref (He.ga X.K c)))
    (ha : SA X (e :: es) ma) (hw : SK X kws mk) (hall : (kws.map (·.arg)).all (·.isSome) = true := by rfl) (hks : (kws.map (·.arg)).filterMap id = ks := by rfl) (h0 : noStar e = true := by rfl) (h1 : es.all noStar = true := by rfl) (hdb : (c == ("__debug__" : Str)) = false := by decide) :
    SE X (.Call (.Name c p) (e :: es) kws pos) (mMake c n ks.length gW mf ma mk) := by
  obtain ⟨fd, G, b⟩ := F.ex
  refine ⟨make_len F.len ha.len hw.len, fun ρ m o m' q B al σ H Q wd rs h pins s I => ?_⟩
  refine wpAny_Call_Name_kw (ld_glob I hg hm ?_ hdb)
  refine PySem.W.callWith_KW (h₀ := X.base) I.ok.mod.kin M.kp (kw_all hall) (thn (ha.seq (Q' := fun vs H1 => ∀ pins s1 us, Inv X pins σ H1 s1 → Vals vs us → wpAny (model X.prog X.w) X.A (evalAll ((backToKw pos (keywordEach kws X.env)).map (·.2))) (fun ws2 s2 => X.K.In s2.heap ∧ wpAny (model X.prog X.w) X.A (call (.ref (He.ga X.K c)) us (ks.zip ws2)) (EP X pins σ Q) X.xe s2) X.xe s1)
      q wd rs h.res (fun ws m1 q1 l1 B1 al1 vs1 H1 e1 g1 wd1 r1 pins s1 us I1 ru => ?_) pos pins s I)
    fun us s1 ⟨vs, H1, I1, r, q⟩ => by rw [kw_ks hks]; exact q pins s1 us I1 r) (by rw [star_any (es := e :: es) (by rw [List.all_cons, h0, h1]; rfl), kw_any hall]; rfl) (starEach_cons h0)
  refine thn (hw.seq (Q' := fun zs H2 => ∀ pins s2 ks2, Inv X pins σ H2 s2 → Vals zs ks2 → Vals vs1 us → wpAny (model X.prog X.w) X.A (call (.ref (He.ga X.K c)) us (ks.zip ks2)) (EP X pins σ Q) X.xe s2) q1 wd1 (rs.mono e1 g1 l1) (fun c fs z => (h.res c fs z).mono e1 g1 l1) (fun us2 m2 q2 l2 B2 al2 vs2 H2 e2 g2 wd2 r2 pins s2 ks2 I2 rk ru2 => ?_) pos pins s1 I1)
    fun ks2 s2 ⟨zs, H2, I2, rk, q⟩ => ⟨I2.kIn, q pins s2 ks2 I2 rk ru⟩
  split at q2
  · next hl => exact make_run M (G.mono hj) hr hG b h (Nat.le_trans l1 l2) (e1.trans e2) (g1.trans g2 l1) wd2 (r1.mono e2 g2 l2) r2 hl.1 hl.2 q2 F.len I2 ru2 rk
  · cases q2
end
end Dm
set_option maxHeartbeats 4000000
/-! Dm, part 23: an own exception is made, by place and by keyword, over any base; its fields are stored. -/
namespace DmX
open PySem PySem.HandSPX
section
open Builtin Builtin.ObjectAttr
variable {prog : Program} {w : World} {A : Around} {E : Value → Shared → Prop} {R : Result → Shared → Prop} {h : Heap} {g : Array GenState} {d : Drawn} {t : Nat} {os : OsState}
variable {nm q : Str} {C N : Addr} {bs bm bmB : List Value} {hdct : Bool} {sn : List Str} {sub : List Value} {ab : Bool} {col : Option Bool} {dd : Option Addr} {k0 k1 k2 k3 k5 : Option Value} {B newId initId : String}
theorem newCheckK (F : ExcBaseFacts B newId initId bmB) (hT : ∀ X : String, bm.contains (.type X) = bmB.contains (.type X)) {M : Model} {rest : List Value} {kw : List (Str × Value)} {Q : Unit → Shared → Prop}
    (hC : h.get? C = some (excClassObj nm q C N bs bm hdct sn sub ab col dd k0 k1 k2 k3 k5 newId)) (hq : Q () ⟨h, g, d, t, os⟩) : wpAny M A (checkBuiltinCall newId ⟨.ref C :: rest, kw⟩) Q E ⟨h, g, d, t, os⟩ := by
  have hcont : (Value.ref C :: bm).contains (.type B) = true := by rw [List.contains_cons, hT, F.hasB, Bool.or_true]
  have hstar := F.noStar
  simp only [checkBuiltinCall, F.newKind, F.newSplit, F.newRow]
  repeat (first | refine wpAny_loadPart_at hC ?_ | (refine wpAny_isSubtype_exc hC ?_; rw [hcont]) | refine wpAny_staticBase_exc hC ?_ | refine wpAny_madeBy_exc hC ?_ | simp only [bne_self_eq_false, Bool.false_eq_true, if_false] | wp_step)
  exact hq
theorem newOwnK (F : ExcBaseFacts B newId initId bmB) (hT : ∀ X : String, bm.contains (.type X) = bmB.contains (.type X)) {rest : List Value} {kw : List (Str × Value)}
    (hC : h.get? C = some (excClassObj nm q C N bs bm hdct sn sub ab col dd k0 k1 k2 k3 k5 newId))
    (hq : R (.ok (.ret (.ref (h.objs.size + 1)))) ⟨(h.push { cls := .type "tuple", data := .seq rest.toArray }).push
      { cls := .ref C, data := .fields #[.ref h.objs.size, .none, .none, .none, .bool false, .none] }, g, d, t, os⟩) (hrest : rest.length ≤ sizeLine) :
    codeAny (model prog w) A (.builtin newId ⟨.ref C :: rest, kw⟩) R ⟨h, g, d, t, os⟩ := by
  have hends := F.ends
  have hcB : (Value.ref C :: bm).contains (.type B) = true := by rw [List.contains_cons, hT, F.hasB, Bool.or_true]
  have hcA : (Value.ref C :: bm).contains (.type "AttributeError") = false := by rw [List.contains_cons, hT, F.noAttr]; rfl
  have hcN : (Value.ref C :: bm).contains (.type "NameError") = false := by rw [List.contains_cons, hT, F.noName]; rfl
  refine codeAny_builtinAt F.entry ?_
  unfold Builtin.«BaseException.__new__»
  refine wpAt_bind ?_
  show wpAt _ _ _ (stack >>= _) _ _ _
  refine wpAt_bind (wpAt_stack fun p below => wpAt_of_wpAny ?_)
  wp_walk
  refine wpAt_of_wpAny ?_
  rw [F.owner]
  repeat (first | with_reducible refine wpAny_madeHere_exc F.canon hC ?_ | with_reducible refine wpAny_loadPart_at hC ?_ | (with_reducible refine wpAny_isSubtype_exc hC ?_; first | rw [hcB] | rw [hcA] | rw [hcN]) | wp_step)
  show R _ _
  rw [Heap.size_push]
  exact hq
theorem typeCallK (F : ExcBaseFacts B newId initId bmB) (hT : ∀ X : String, bm.contains (.type X) = bmB.contains (.type X)) {rest : List Value} {kw : List (Str × Value)} {fI : Addr} {Q : Fin → Shared → Prop}
    (hC : h.get? C = some (excClassObj nm q C N bs bm hdct sn sub ab col dd k0 k1 k2 k3 k5 newId))
    (hi : W.Looks (model prog w) h (typeLookup (.ref C) "__init__") (some (.ref fI))) (hb : ∀ self, W.Looks (model prog w) h (bindSpecial (.ref fI) self) (.ref fI, [self])) (hrest : rest.length ≤ sizeLine)
    (hq : codeAny (model prog w) A (.call (.ref fI) ⟨.ref (h.objs.size + 1) :: rest, kw⟩)
      (fun r s' => match r with | .ok (.ret v) => v = .none ∧ Q (.done (.ret (.ref (h.objs.size + 1)))) s' | .ok _ => False | .error e => E e s')
      ⟨(h.push (W.kdv_tup rest)).push (excO C h.objs.size), g, d, t, os⟩) :
    wpAny (model prog w) A (Builtin.«type.__call__» ⟨.ref C :: rest, kw⟩) Q E ⟨h, g, d, t, os⟩ := by
  repeat (first | with_reducible refine wpAny_loadPart_at hC ?_ | with_reducible refine wpAny_madeBy_exc hC ?_ | wp_step)
  refine codeAny_call_builtin_code (Code.quiet_builtin _ F.quiet) (newCheckK F hT hC ?_)
  refine newOwnK F hT hC ?_ hrest
  show wpAny _ _ _ _ _ _
  have k : ∀ b o, h.get? b = some o → ((h.push (W.kdv_tup rest)).push (excO C h.objs.size)).get? b = some o := fun b o e => Heap.get?_push_of_some _ (Heap.get?_push_of_some _ e)
  have hC₁ := k _ _ hC
  have hget : ((h.push (W.kdv_tup rest)).push (excO C h.objs.size)).get? (h.objs.size + 1) = some (excO C h.objs.size) := by heap_get
  have hcC : (Value.ref C :: bm).contains (.ref C) = true := by simp
  have i1 := hi.keeps k
  have b1 := (hb (.ref (h.objs.size + 1))).keeps k
  unfold isInstance
  repeat (first | with_reducible refine wpAny_loadPart_at hget ?_ | (with_reducible refine wpAny_isSubtype_exc hC₁ ?_; rw [hcC]) | wp_step)
  show wpAny _ _ (typeLookup (.ref C) _) _ _ _
  refine i1.at ?_
  refine wpAny_holding (wpAny_bind (b1.at ?_))
  refine wpAny_bind (wpAny_call (codeAny_mono hq fun r s' z => ?_))
  rcases r with e | (v | _ | _ | _) <;> first | exact z | exact z.elim | skip
  obtain ⟨rfl, z⟩ := z
  first
    | exact wpAny_pure (wpAny_pure z)
    | (wp_walk; exact z)
theorem callK (F : ExcBaseFacts B newId initId bmB) (hT : ∀ X : String, bm.contains (.type X) = bmB.contains (.type X)) {rest : List Value} {kw : List (Str × Value)} {fI : Addr}
    (hC : h.get? C = some (excClassObj nm q C N bs bm hdct sn sub ab col dd k0 k1 k2 k3 k5 newId))
    (hi : W.Looks (model prog w) h (typeLookup (.ref C) "__init__") (some (.ref fI))) (hb : ∀ self, W.Looks (model prog w) h (bindSpecial (.ref fI) self) (.ref fI, [self])) (hrest : rest.length ≤ sizeLine)
    (hq : codeAny (model prog w) (A.under (.builtin "type.__call__" ⟨.ref C :: rest, kw⟩)) (.call (.ref fI) ⟨.ref (h.objs.size + 1) :: rest, kw⟩) (W.InitBack (h.objs.size + 1) R)
      ⟨(h.push (W.kdv_tup rest)).push (excO C h.objs.size), g, d, t, os⟩) :
    codeAny (model prog w) A (.call (.ref C) ⟨rest, kw⟩) R ⟨h, g, d, t, os⟩ := by
  have f1 := tc_lookup
  have f2 := tc_bind (.ref C)
  have hTy : (⟨h, g, d, t, os⟩ : Shared).TypeIs (.ref C) "type" := ⟨_, hC, rfl⟩
  refine codeAny_of_tree ?_
  show wpAny _ _ (callAny (.ref C) _) _ _ _
  repeat (any_goals (first | assumption | with_reducible refine wpAny_loadPart_at hC ?_ | wp_step))
  refine ⟨rfl, ?_⟩
  refine codeAny_call_builtin_at (Code.quiet_builtin _ (by decide +kernel)) entry_typeCall (wpAny_check_type_call_sub hC (typeCallK F hT hC hi hb hrest ?_))
  refine codeAny_mono hq fun r s' z => ?_
  rcases r with e | (v | _ | _ | _) <;> exact z
end
end DmX
set_option maxHeartbeats 4000000
/-! Dm, part 24: stores into an own exception over any base. -/
namespace DmX
open PySem PySem.HandSPX
/-- own classes, then the base's mro -/
def ownTail (tl : List Value) : List Value → Bool
  | .ref _ :: r => ownTail tl r
  | l => l == tl
theorem ownTail_cases {tl : List Value} : ∀ l : List Value, ownTail tl l = true → ∃ cs : List Addr, l = cs.map Value.ref ++ tl := by
  intro l
  induction l with
  | nil => intro e; exact ⟨[], (beq_iff_eq.mp e)⟩
  | cons a r ih =>
    intro e
    cases a with
    | ref c => obtain ⟨cs, rfl⟩ := ih e; exact ⟨c :: cs, rfl⟩
    | _ => exact ⟨[], beq_iff_eq.mp e⟩
theorem ownTail_contains {tl : List Value} (X : String) (l : List Value) (h : ownTail tl l = true) : l.contains (.type X) = tl.contains (.type X) := by
  obtain ⟨cs, rfl⟩ := ownTail_cases l h
  induction cs with
  | nil => rfl
  | cons c cs ih => 
    rw [List.map_cons, List.cons_append, List.contains_cons]
    rw [show ((Value.type X == Value.ref c) = false) from rfl, Bool.false_or]
    exact ih h
section
open Builtin Builtin.ObjectAttr
theorem ownTail_pass {tl : List Value} (self : Value) (l : List Value) (hp : refuseLoop self "__setattr__" tl = pure ()) (h : ownTail tl l = true) : refuseLoop self "__setattr__" l = pure () := by
  obtain ⟨cs, rfl⟩ := ownTail_cases l h
  induction cs with
  | nil => exact hp
  | cons c cs ih => rw [List.map_cons, List.cons_append, refuseLoop_ref]; exact ih h
theorem ownTail_ne {tl l : List Value} (n : tl.isEmpty = false) (h : ownTail tl l = true) : l.isEmpty = false := by
  obtain ⟨cs, rfl⟩ := ownTail_cases l h
  cases cs with
  | nil => exact n
  | cons _ _ => rfl
/-- the base's facts that a store asks -/
structure TailOk (tl : List Value) : Prop where
  pass : ∀ self : Value, refuseLoop self "__setattr__" tl = pure ()
  obj : tl.contains (.type "object") = true
theorem TailOk.ne {tl : List Value} (h : TailOk tl) : tl.isEmpty = false := by
  cases tl with
  | nil => exact absurd h.obj (by decide)
  | cons _ _ => rfl
theorem tailVE : TailOk [.type "ValueError", .type "Exception", .type "BaseException", .type "object"] := ⟨F.store_ValueError.passes, by decide +kernel⟩
theorem tailRE : TailOk [.type "RuntimeError", .type "Exception", .type "BaseException", .type "object"] := ⟨F.store_RuntimeError.passes, by decide +kernel⟩
theorem tailLE : TailOk [.type "LookupError", .type "Exception", .type "BaseException", .type "object"] := ⟨F.store_LookupError.passes, by decide +kernel⟩
theorem tailAE : TailOk [.type "ArithmeticError", .type "Exception", .type "BaseException", .type "object"] := ⟨F.store_ArithmeticError.passes, by decide +kernel⟩
variable {prog : Program} {w : World} {A : Around} {E : Value → Shared → Prop} {R : Result → Shared → Prop} {hp : Heap} {g : Array GenState} {d : Drawn} {t : Nat} {os : OsState} {tl : List Value}
/-- the first field: the dict is laid -/
theorem osaNew {K : W.Frag} {name : Str} {tk : Tok} {v : Value} {x C : Addr} {fv : Array Value} {cd : ClassData} (TO : TailOk tl)
    (X : K.In hp) (hx : hp.get? x = some { cls := .ref C, data := .fields fv }) (hcd : W.clsIn K C = some cd) (hm : ownTail tl cd.mro = true) (hh : cd.hasDict = true) (ha : W.findIn K (.ref C) name = some none)
    (hq : ∀ h' tk' dx, (∀ b o, b ≠ x → hp.get? b = some o → h'.get? b = some o) → hp.objs.size ≤ dx → dx ≠ x → h'.get? x = some { cls := .ref C, dict := some dx, data := .fields fv } →
      h'.Ns1 dx (fun y => if y = name then some v else none) → R (.ok (.ret .none)) ⟨h', g, d, tk', os⟩) :
    codeAny (model prog w) A (.call (.builtin "object.__setattr__") ⟨[.ref x, .str name tk, v], []⟩) R ⟨hp, g, d, t, os⟩ := by
  have I : W.InstAt hp x { cls := .ref C, data := .fields fv } C none := ⟨hx, rfl, rfl, trivial⟩
  have SF := F.store_object
  have ne := ownTail_ne TO.ne hm
  have hob : cd.mro.contains (.type "object") = true := (ownTail_contains "object" _ hm).trans TO.obj
  have hxs : x ≠ hp.objs.size := Nat.ne_of_lt (Heap.lt_size hx)
  have sub : W.Looks (model prog w) hp (isInstance (.ref x) (.type "object")) true := I.type.andThen (W.looks_mroIn X (by unfold W.mroIn; rw [hcd, Option.bind_some, if_neg (by rw [ne]; decide), hob]))
  refine codeAny_call_builtin SF.slot.plain SF.entry (@W.check_slot (model prog w) _ _ ⟨hp, g, d, t, os⟩ "object.__setattr__" "object" "__setattr__" (.ref x) [.str name tk, v] [] _ SF.kind SF.split sub (SF.args (.ref x) (.str name tk) v) ?_)
  have hmr : W.Looks (model prog w) hp (mroOf (.ref C)) cd.mro := (W.looks_clsIn X hcd).andThen .now
  have L3 : W.Looks (model prog w) hp (storeTaker? none) none := .now
  have hcls : W.Looks (model prog w) hp (classData C) cd := W.looks_clsIn X hcd
  rw [W.osa_eq, refuse_eq]
  refine wpAny_bind (wpAny_bind (I.type.at (wpAny_bind (hmr.at ?_))))
  rw [ownTail_pass _ _ (TO.pass _) hm]
  refine wpAny_pure (wpAny_bind (I.type.at (wpAny_bind ((W.looks_findIn X ha).at (wpAny_bind (L3.at ?_))))))
  show wpAny _ _ (storeInOwnDict (.ref x) (.ref C) (.str name tk) name v false) _ _ _
  obtain ⟨nm, bs, mro, ns, qn, hd, sn, sb, ab, col, del⟩ := cd
  dsimp only at hh
  subst hh
  unfold storeInOwnDict ownDictForStores
  repeat (first | with_reducible refine store_in_new ?_ ?_ | with_reducible refine wpAny_loadPart_at hx ?_ | with_reducible refine hcls.at ?_ | wp_step)
  · exact ⟨_, #[], _, (Heap.get?_update_ne _ _ _ _ hxs.symm).trans (Heap.get?_push_at rfl rfl), rfl, fun e he => absurd he (by simp), fun _ => rfl⟩
  · intro h' tk' hn' hs
    have hx₁ : (hp.push { cls := .type "dict", data := .dict #[] }).get? x = some { cls := .ref C, data := .fields fv } := Heap.get?_push_of_some _ hx
    refine hq h' tk' hp.objs.size (fun b o hb ho => ?_) (Nat.le_refl _) hxs.symm ?_ hn'
    · exact (hs.2 b (Nat.ne_of_lt (Heap.lt_size ho))).trans ((Heap.get?_update_ne _ _ _ _ hb).trans (Heap.get?_push_of_some _ ho))
    · exact (hs.2 x hxs).trans (Heap.get?_update_self _ hx₁ rfl)
/-- a further field -/
theorem osaOld {K : W.Frag} {name : Str} {tk : Tok} {v : Value} {x C dx : Addr} {fv : Array Value} {cd : ClassData} {m0 : Str → Option Value} {nl : List Str} (TO : TailOk tl)
    (X : K.In hp) (hx : hp.get? x = some { cls := .ref C, dict := some dx, data := .fields fv }) (hns : hp.Ns1 dx m0) (hw : Within m0 nl) (hz : nl.length ≤ 1000) (hcd : W.clsIn K C = some cd) (hm : ownTail tl cd.mro = true) (hh : cd.hasDict = true)
    (ha : W.findIn K (.ref C) name = some none)
    (hq : ∀ h' tk', (∀ b o, b ≠ dx → hp.get? b = some o → h'.get? b = some o) → h'.Ns1 dx (fun y => if y = name then some v else m0 y) → R (.ok (.ret .none)) ⟨h', g, d, tk', os⟩) :
    codeAny (model prog w) A (.call (.builtin "object.__setattr__") ⟨[.ref x, .str name tk, v], []⟩) R ⟨hp, g, d, t, os⟩ := by
  obtain ⟨oD, esD, epD, hoD, hdD, _⟩ := hns.count hw
  have I : W.InstAt hp x { cls := .ref C, dict := some dx, data := .fields fv } C (some oD) := ⟨hx, rfl, rfl, hoD⟩
  have SF := F.store_object
  have ne := ownTail_ne TO.ne hm
  have hob : cd.mro.contains (.type "object") = true := (ownTail_contains "object" _ hm).trans TO.obj
  have sub : W.Looks (model prog w) hp (isInstance (.ref x) (.type "object")) true := I.type.andThen (W.looks_mroIn X (by unfold W.mroIn; rw [hcd, Option.bind_some, if_neg (by rw [ne]; decide), hob]))
  refine codeAny_call_builtin SF.slot.plain SF.entry (@W.check_slot (model prog w) _ _ ⟨hp, g, d, t, os⟩ "object.__setattr__" "object" "__setattr__" (.ref x) [.str name tk, v] [] _ SF.kind SF.split sub (SF.args (.ref x) (.str name tk) v) ?_)
  have hmr : W.Looks (model prog w) hp (mroOf (.ref C)) cd.mro := (W.looks_clsIn X hcd).andThen .now
  have L3 : W.Looks (model prog w) hp (storeTaker? none) none := .now
  have hcls : W.Looks (model prog w) hp (classData C) cd := W.looks_clsIn X hcd
  rw [W.osa_eq, refuse_eq]
  refine wpAny_bind (wpAny_bind (I.type.at (wpAny_bind (hmr.at ?_))))
  rw [ownTail_pass _ _ (TO.pass _) hm]
  refine wpAny_pure (wpAny_bind (I.type.at (wpAny_bind ((W.looks_findIn X ha).at (wpAny_bind (L3.at ?_))))))
  show wpAny _ _ (storeInOwnDict (.ref x) (.ref C) (.str name tk) name v false) _ _ _
  obtain ⟨nm, bs, mro, ns, qn, hd, sn, sb, ab, col, del⟩ := cd
  dsimp only at hh
  subst hh
  unfold storeInOwnDict ownDictForStores
  repeat (first | with_reducible refine OEX.store_in_old hns hw hz ?_ | with_reducible refine wpAny_loadPart_at hx ?_ | with_reducible refine hcls.at ?_ | wp_step)
  intro h' tk' hn' hs
  exact hq h' tk' (fun b o hb ho => (hs.2 b hb).trans ho) hn'
end
end DmX
set_option maxHeartbeats 2000000
/-! Dm, part 25: the __init__ of an own exception, over any base. -/
namespace Dm
open PySem PySem.Spec PyProof.Rows L2
open Evl (Ex)
/-- what the written part says of an own exception class -/
structure OexG (K : PySem.W.Frag) (C : Addr) : Prop where
  cls : ∃ (tl : List Value) (Bs newId initId : String) (nm q : Str) (N : Addr) (bs bm : List Value) (sn : List Str) (sub : List Value) (ab : Bool) (col : Option Bool) (dd : Option Addr) (k0 k1 k2 k3 k5 : Option Value),
    ExcBaseFacts Bs newId initId tl ∧ DmX.TailOk tl ∧ K.lookup C = some (excClassObj nm q C N bs bm true sn sub ab col dd k0 k1 k2 k3 k5 newId) ∧ DmX.ownTail tl bm = true
  sa : PySem.W.findIn K (.ref C) "__setattr__" = some (some (.builtin "object.__setattr__"))
  tyC : PySem.W.typeIn K (.ref C) = some (.type "type")
  kC : PySem.W.keepIn K (.ref C) = true
section
variable {X : Cx} {pins : List (Addr × Obj)} {σ : L2.St} {H : Hp} {s : Shared} {a C dx : Addr} {f : Str} {y : V} {u : Value} {fs : List (Str × V)} {Q : Unit → Shared → Prop} {E : Value → Shared → Prop} {A : Around}
theorem exo_new (T : OexG X.K C) (I : Inv X pins σ H s) (e : H a = some (exo a C none)) (hno : PySem.W.findIn X.K (.ref C) f = some none) (ry : RelV y u)
    (h : ∀ dx s', H dx = none → dx ≠ a → Inv X pins σ (upd (upd H dx (exd dx [(f, y)])) a (exo a C (some dx))) s' → Q () s') : wpAny (model X.prog X.w) A (setAttr (.ref a) f u) Q E s := by
  obtain ⟨tl, Bs, newId, initId, nm, q, N, bs, bm, sn, sub, ab, col, dd, k0, k1, k2, k3, k5, FB, TO, hC, hbm⟩ := T.cls
  have hcl : PySem.W.clsIn X.K C = some { name := nm, bases := bs, mro := .ref C :: bm, ns := N, qualname := q, hasDict := true, slotNames := sn, subclasses := sub, abstract := ab, collection := col, hasDel := false } := by unfold PySem.W.clsIn; rw [hC] <;> rfl
  obtain ⟨t1, ho⟩ := exo_at I.hok e
  obtain ⟨hp, g, d, t, os⟩ := s
  refine PySem.W.set_plain I.kIn (ox := { cls := .ref C, dict := none, data := .fields #[.ref t1, .none, .none, .none, .bool false, .none] }) (od := none) ⟨ho, rfl, rfl, trivial⟩ T.sa ?_
  refine DmX.osaNew TO I.kIn ho hcl (show DmX.ownTail tl (.ref C :: bm) = true from hbm) rfl hno (fun h' tk' dx k dn dne hx hn => ?_)
  have hnd : H dx = none := I.hok.fresh dn
  have nd : ∀ {b : Addr} {o : Obj}, hp.get? b = some o → b ≠ dx := fun {b o} q => Nat.ne_of_lt (Nat.lt_of_lt_of_le (Heap.lt_size q) dn)
  have na : ∀ {b : Addr}, H b = none → b ≠ a := fun {b} n z => by
    rw [z, e] at n
    cases n
  have Un1 : Un X.fs [] H (upd (upd H dx (exd dx [(f, y)])) a (exo a C (some dx))) hp h' := {
    keep := fun b o q n _ _ => k b o (na n) q
    slot := fun b o q n _ _ => ⟨o.slots, k b o (na n) q⟩
    free := fun b o q n _ => by rw [upd_ne (na n), upd_ne (nd q)]; exact n
    there := fun b o q _ => by
      by_cases hb : b = a
      · exact ⟨_, by rw [hb]; exact hx⟩
      · exact ⟨o, k b o hb q⟩
    tups := fun b xs q => by rw [upd_ne (at_ne e q exo_tup), upd_ne (ne_of_none q hnd)]; exact q
    frzs := fun b o v q => by rw [upd_ne (at_ne e q exo_frz), upd_ne (ne_of_none q hnd)]; exact q
    tbls := fun b ps q => ⟨#[], by rw [upd_ne (at_ne e q exo_tbl), upd_ne (ne_of_none q hnd), q]; simp⟩ }
  refine h dx _ hnd dne (I.un (t' := tk') Un1 fun b o q => ?_)
  by_cases hb : b = a
  · subst hb
    rw [upd_same] at q
    cases q
    exact exo_ok hx
  · rw [upd_ne hb] at q
    by_cases hd : b = dx
    · subst hd
      rw [upd_same] at q
      cases q
      exact exd_ok hn (relO_put (fs := []) ry fun g => True.intro)
    · rw [upd_ne hd] at q
      exact (I.hok b o q).stay (fun c v hc z => k c v (by
          rcases hc with hc | hc
          · rw [hc]
            exact hb
          · exact at_ne e hc exo_own) z)
        (fun c hc => by rw [upd_ne (at_ne e hc exo_own), upd_ne (ne_of_none hc hnd)]; exact hc) (fun c xs hc => by rw [upd_ne (at_ne e hc exo_tup), upd_ne (ne_of_none hc hnd)]; exact hc)
theorem exo_old (T : OexG X.K C) (I : Inv X pins σ H s) (e : H a = some (exo a C (some dx))) (ed : H dx = some (exd dx fs)) (hl : fs.length ≤ 900) (hno : PySem.W.findIn X.K (.ref C) f = some none) (ry : RelV y u)
    (h : ∀ s', Inv X pins σ (upd H dx (exd dx ((f, y) :: fs))) s' → Q () s') : wpAny (model X.prog X.w) A (setAttr (.ref a) f u) Q E s := by
  obtain ⟨tl, Bs, newId, initId, nm, q, N, bs, bm, sn, sub, ab, col, dd, k0, k1, k2, k3, k5, FB, TO, hC, hbm⟩ := T.cls
  have hcl : PySem.W.clsIn X.K C = some { name := nm, bases := bs, mro := .ref C :: bm, ns := N, qualname := q, hasDict := true, slotNames := sn, subclasses := sub, abstract := ab, collection := col, hasDel := false } := by unfold PySem.W.clsIn; rw [hC] <;> rfl
  obtain ⟨t1, ho⟩ := exo_at I.hok e
  obtain ⟨mA, hns, rel⟩ := exd_at I.hok ed
  have hw := within_of rel
  obtain ⟨hp, g, d, t, os⟩ := s
  obtain ⟨oD, _, _, hoD, _, _⟩ := hns.count hw
  refine PySem.W.set_plain I.kIn (ox := { cls := .ref C, dict := some dx, data := .fields #[.ref t1, .none, .none, .none, .bool false, .none] }) (od := some oD) ⟨ho, rfl, rfl, hoD⟩ T.sa ?_
  refine DmX.osaOld TO I.kIn ho hns hw (by rw [List.length_map]; omega) hcl (show DmX.ownTail tl (.ref C :: bm) = true from hbm) rfl hno (fun h' tk' k hn => ?_)
  have hd : ∃ o, h'.get? dx = some o := by
    obtain ⟨o, _, _, e', _⟩ := hn
    exact ⟨o, e'⟩
  exact h _ (I.write (t' := tk') (x := dx) (e := dx) (o := exd dx ((f, y) :: fs)) (by rw [ed]; exact True.intro) (.inl rfl) k hd (exd_ok hn (relO_put ry rel)))
end
/-- self.f = e in such an __init__ -/
def tExo (K : PySem.W.Frag) (f : Str) (to te : TE) : TS := fun D σ H => te σ H fun y H1 => to σ H1 fun x H2 => ∃ a C : Addr, x = .ref a ∧ OexG K C ∧ PySem.W.findIn K (.ref C) f = some none ∧
  ((H2 a = some (exo a C none) ∧ ∀ dx, H2 dx = none → dx ≠ a → D.nx σ (upd (upd H2 dx (exd dx [(f, y)])) a (exo a C (some dx)))) ∨
    ∃ (dx : Addr) (fs : List (Str × V)), H2 a = some (exo a C (some dx)) ∧ H2 dx = some (exd dx fs) ∧ fs.length ≤ 900 ∧ D.nx σ (upd H2 dx (exd dx ((f, y) :: fs))))
theorem ps_exo {X : Cx} {o e : Expr} {to te : TE} {f : Str} {p' pos : Pos} (ho : PE X o to) (he : PE X e te) (hs : swapsWith e (some (.Attribute o f p')) pos.line X.env = pure false := by rfl) : PS X (.Assign [.Attribute o f p'] e pos) (tExo X.K f to te) := by
  refine ⟨fun pins s σ H D I h => ?_⟩
  refine plainObj_wpAny_Assign_Attribute (thn (he.run pins s σ H _ I h) fun v s1 ⟨y, H1, I1, r1, q1⟩ => thn (ho.run pins s1 σ H1 _ I1 q1) fun u s2 ⟨x, H2, I2, r2, a, C, ex, T, hno, q⟩ => ?_) hs
  subst ex
  obtain rfl : u = Value.ref a := r2
  rcases q with ⟨ea, q⟩ | ⟨dx, fs, ea, ed, hl, q⟩
  · exact exo_new T I2 ea hno r1 fun dx s' n ne J => ⟨σ, _, J, q dx n ne⟩
  · exact exo_old T I2 ea ed hl hno r1 fun s' J => ⟨σ, _, J, q⟩
end Dm
/-! Dm, part 26: an own exception's __init__ of one store, of two. -/
namespace Dm
open PySem PySem.Spec PyProof.Rows L2
open Evl (Ex)
/-- what an own exception's __init__ with the fields fs (in the order of its parameters) does -/
def exLay (a C dx : Addr) (H : Hp) : List (Str × V) → Hp
  | [] => H
  | [(f, y)] => upd (upd H dx (exd dx [(f, y)])) a (exo a C (some dx))
  | [(f, y), (f2, y2)] => upd (upd (upd H dx (exd dx [(f, y)])) a (exo a C (some dx))) dx (exd dx [(f2, y2), (f, y)])
  | _ => H
def spX (C : Addr) (fs : List Str) : Sp := fun vs H Q _ => vs.length = fs.length + 1 ∧ ∃ a ys, vs = .ref a :: ys ∧ H a = some (exo a C none) ∧ ∀ dx, H dx = none → dx ≠ a → Q .non (exLay a C dx H (fs.zip ys))
section
variable {P : Program} {w : World} {K : PySem.W.Frag} {mg : Str → Option Value} {bs : Heap} {x qual : Str} {params : Arguments} {sc : Scope} {dvs : List V} {kws : List (Str × V)} {f : Addr} {fd : FuncData} {k : Nat} {C : Addr}
theorem init1_fnG {sf pa fl : Str} {p1 p2 p3 p4 : Pos} (F : FunD K x qual params [.Assign [.Attribute (.Name sf p1) fl p2] (.Name pa p3) p4] sc dvs kws f fd) (S : FnScope [sf, pa] [sf, pa] sc)
    (T : OexG K C) (hno : PySem.W.findIn K (.ref C) fl = some none) (v0 : Vis sc sf) (v1 : Vis sc pa)
    (d0 : (sf == ("__debug__" : Str)) = false := by decide) (c0 : (sf == ("__classdict__" : Str)) = false := by decide) (d1 : (pa == ("__debug__" : Str)) = false := by decide) (c1 : (pa == ("__classdict__" : Str)) = false := by decide) :
    FnG P w K mg bs (k + 1) f fd [sf, pa] (spX C [fl]) := by
  obtain ⟨oc, od, dV, kV, doc, pm, an, cdv, ct, osl, rfl, lk, hcd, _, _⟩ := F.ex
  refine fnG_of lk hcd S (fun vs H Q E h => h.1) fun A fr s H vs Q E hG rm h => ⟨_, pss_one (ps_exo (f := fl) (pe_var (i := 0) rfl v0 d0 c0) (pe_var (i := 1) rfl v1 d1 c1)), ?_⟩
  obtain ⟨hl, a, ys, rfl, ha, q⟩ := h
  match ys, hl, q with
  | [y], _, q => exact ⟨y, rfl, .ref a, rfl, a, C, rfl, T, hno, .inl ⟨ha, fun dx n ne => q dx n ne⟩⟩
theorem init2_fnG {sf pa pb fl fl2 : Str} {p1 p2 p3 p4 p5 p6 p7 p8 : Pos} (F : FunD K x qual params [.Assign [.Attribute (.Name sf p1) fl p2] (.Name pa p3) p4, .Assign [.Attribute (.Name sf p5) fl2 p6] (.Name pb p7) p8] sc dvs kws f fd) (S : FnScope [sf, pa, pb] [sf, pa, pb] sc)
    (T : OexG K C) (hno : PySem.W.findIn K (.ref C) fl = some none) (hno2 : PySem.W.findIn K (.ref C) fl2 = some none) (v0 : Vis sc sf) (v1 : Vis sc pa) (v2 : Vis sc pb)
    (d0 : (sf == ("__debug__" : Str)) = false := by decide) (c0 : (sf == ("__classdict__" : Str)) = false := by decide) (d1 : (pa == ("__debug__" : Str)) = false := by decide) (c1 : (pa == ("__classdict__" : Str)) = false := by decide)
    (d2 : (pb == ("__debug__" : Str)) = false := by decide) (c2 : (pb == ("__classdict__" : Str)) = false := by decide) :
    FnG P w K mg bs (k + 1) f fd [sf, pa, pb] (spX C [fl, fl2]) := by
  obtain ⟨oc, od, dV, kV, doc, pm, an, cdv, ct, osl, rfl, lk, hcd, _, _⟩ := F.ex
  refine fnG_of lk hcd S (fun vs H Q E h => h.1) fun A fr s H vs Q E hG rm h => ⟨_, pss_cons (ps_exo (f := fl) (pe_var (i := 0) rfl v0 d0 c0) (pe_var (i := 1) rfl v1 d1 c1)) (pss_one (ps_exo (f := fl2) (pe_var (i := 0) rfl v0 d0 c0) (pe_var (i := 2) rfl v2 d2 c2))), ?_⟩
  obtain ⟨hl, a, ys, rfl, ha, q⟩ := h
  match ys, hl, q with
  | [y, y2], _, q =>
    refine ⟨y, rfl, .ref a, rfl, a, C, rfl, T, hno, .inl ⟨ha, fun dx n ne => ⟨y2, rfl, .ref a, rfl, a, C, rfl, T, hno2, .inr ⟨dx, [(fl, y)], upd_same, ?_, (by show 1 ≤ 900; decide), q dx n ne⟩⟩⟩⟩
    rw [upd_ne ne, upd_same]
end
end Dm
set_option maxHeartbeats 2000000
/-! Dm, part 27: C(e, ..), an own exception with an __init__ that stores its arguments. -/
namespace Dm
open PySem PySem.Spec PyProof.Rows L2
open Evl (Ex)
def datsOf : List W → Option (List D)
  | [] => some []
  | .dat d :: r => (datsOf r).map (d :: ·)
  | _ => none
/-- the fields as the dict holds them -/
def exF : List Str → List D → Option (List (Str × D))
  | [f], [d] => some [(f, d)]
  | [f, f2], [d, d2] => some [(f2, d2), (f, d)]
  | _, _ => none
def exEnd (c : Str) (fls : List Str) (j : Nat) (m : Mem) (ws : List W) : Run W := match ws with
  | .hdl i :: r => (if i = j then (datsOf r).bind fun ds => (exF fls ds).map fun fs => (Out.ok (.dat (.exc c fs)), m) else none)
  | _ => none
theorem dats_rep {K : PySem.W.Frag} {B : Hp} {al : Pl} {n : Nat} : ∀ {vs : List V} {ws : List W} {ds : List D}, RepL K B al n vs ws → datsOf ws = some ds → Reps K B vs ds
  | [], [], _, _, e => by cases e; exact .nil
  | _ :: _, .dat d :: r, _, h, e => by
    obtain ⟨ds, e2, rfl⟩ := Option.map_eq_some_iff.mp e
    exact .cons h.1 (dats_rep h.2 e2)
theorem exLay_rep {K : PySem.W.Frag} {B H : Hp} {al : Pl} {m : Mem} {c : Str} {a dx : Addr} {fls : List Str} {ys : List V} {ds : List D} {fs : List (Str × D)} (wd : Wd K B al m H) (r : Reps K B ys ds) (e : exF fls ds = some fs) (ha : H a = none) (hd : H dx = none) (ne : dx ≠ a) :
    ∃ B', Ex B B' ∧ Wd K B' al m (exLay a (He.ga K c) dx (upd H a (exo a (He.ga K c) none)) (fls.zip ys)) ∧ Rep K B' (.ref a) (.exc c fs) := by
  have big : ∀ {gs : List (Str × V)}, RepF K B gs fs → exLay a (He.ga K c) dx (upd H a (exo a (He.ga K c) none)) (fls.zip ys) = upd (upd H dx (exd dx gs)) a (exo a (He.ga K c) (some dx)) → ∃ B', Ex B B' ∧ Wd K B' al m (exLay a (He.ga K c) dx (upd H a (exo a (He.ga K c) none)) (fls.zip ys)) ∧ Rep K B' (.ref a) (.exc c fs) := fun {gs} rf eq => by
    have g1 := Gr.lay wd.ext (o := exd dx gs) hd
    have ha' : upd H dx (exd dx gs) a = none := by rw [upd_ne ne.symm]; exact ha
    have wd1 := wd.grow g1
    have g2 := Gr.lay wd1.ext (o := exo a (He.ga K c) (some dx)) ha'
    have wd2 := wd1.grow g2
    rw [eq]
    exact ⟨_, g1.b.trans g2.b, wd2, .exc upd_same (by rw [upd_ne ne, upd_same]) (rf.mono (g1.b.trans g2.b))⟩
  have up2 : ∀ {G : Hp} {o o' : HO}, upd (upd G a o) a o' = upd G a o' := fun {G o o'} => by
    funext b; by_cases z : b = a
    · rw [z, upd_same, upd_same]
    · rw [upd_ne z, upd_ne z, upd_ne z]
  have sw : ∀ {G : Hp} {o o' : HO}, upd (upd G a o) dx o' = upd (upd G dx o') a o := fun {G o o'} => by
    funext b; by_cases z : b = a
    · subst z; rw [upd_same, upd_ne ne.symm, upd_same]
    · by_cases y : b = dx
      · subst y; rw [upd_same, upd_ne z, upd_same]
      · rw [upd_ne y, upd_ne z, upd_ne z, upd_ne y]
  have up3 : ∀ {G : Hp} {o o' : HO}, upd (upd G dx o) dx o' = upd G dx o' := fun {G o o'} => by
    funext b; by_cases z : b = dx
    · rw [z, upd_same, upd_same]
    · rw [upd_ne z, upd_ne z, upd_ne z]
  match fls, ds, e, ys, r with
  | [f], [d], e, [y], .cons r1 .nil =>
    cases e
    refine big (gs := [(f, y)]) (.cons r1 .nil) ?_
    show upd (upd (upd H a _) dx _) a _ = _
    rw [sw, up2]
  | [f, f2], [d, d2], e, [y, y2], .cons r1 (.cons r2 .nil) =>
    cases e
    refine big (gs := [(f2, y2), (f, y)]) (.cons r2 (.cons r1 .nil)) ?_
    show upd (upd (upd (upd H a _) dx _) a _) dx _ = _
    rw [sw, up3, sw, up2]
section
variable {X : Cx}
theorem exc_run {k n : Nat} {c : Str} {f : Addr} {fd : FuncData} {ps ks fls : List Str} {gW : List W → List W → List W} (T : OexG X.K (He.ga X.K c)) (iC : PySem.W.findIn X.K (.ref (He.ga X.K c)) "__init__" = some (some (.ref f))) (tI : PySem.W.typeIn X.K (.ref f) = some (.type "function"))
    (F : FnG X.prog X.w X.K X.mg X.base k f fd ps (spX (He.ga X.K c) fls)) (hr : Room (k + 1) X.A) (hG : X.A.guards = some []) (hb : Bdg X.K fd ps (n + 1) ks gW) (hps : ps.length = fls.length + 1)
    {B B2 : Hp} {al al2 : Pl} {m m2 m' : Mem} {σ : L2.St} {H2 : Hp} {Q : VK} {o : Out W} (h : AnsE X B al m.length σ Q m' o) (l : m.length ≤ m2.length) (e2 : Ex B B2) (g2 : Agr m.length al al2) (wd2 : Wd X.K B2 al2 m2 H2) {vs zs : List V} {ws us : List W}
    (r1 : RepL X.K B2 al2 m2.length vs ws) (r2 : RepL X.K B2 al2 m2.length zs us) (hl1 : ws.length = n) (hl2 : us.length = ks.length) (hn : n ≤ 1000) (q : exEnd c fls m2.length m2 (gW (.hdl m2.length :: ws) us) = some (o, m'))
    {pins : List (Addr × Obj)} {s : Shared} (I : Inv X pins σ H2 s) {uv kv : List Value} (rv : Vals vs uv) (rk : Vals zs kv) : wpAny (model X.prog X.w) X.A (call (.ref (He.ga X.K c)) uv (ks.zip kv)) (EP X pins σ Q) X.xe s := by
  obtain ⟨g, gV, hbn, hvl, hrel⟩ := hb.ex
  obtain ⟨tl, Bs, newId, initId, nm, qn, N, bs, bm, sn, sub, ab, col, dd, k0, k1, k2, k3, k5, FB, TO, hC, hbm⟩ := T.cls
  have lv : vs.length = n := r1.length.trans hl1
  have lz : zs.length = ks.length := r2.length.trans hl2
  obtain ⟨hp, gg, dr, tk, os⟩ := s
  have hsz : hp.objs.size ≤ hp.objs.size + 1 := Nat.le_succ _
  have hx : H2 (hp.objs.size + 1) = none := I.hok.fresh hsz
  have kk : ∀ b o, hp.get? b = some o → ((hp.push (PySem.W.kdv_tup uv)).push (PySem.HandSPX.excO (He.ga X.K c) hp.objs.size)).get? b = some o := fun b o e => Heap.get?_push_of_some _ (Heap.get?_push_of_some _ e)
  have hget : ((hp.push (PySem.W.kdv_tup uv)).push (PySem.HandSPX.excO (He.ga X.K c) hp.objs.size)).get? (hp.objs.size + 1) = some (PySem.HandSPX.excO (He.ga X.K c) hp.objs.size) := by heap_get
  have I2 : Inv X pins σ (upd H2 (hp.objs.size + 1) (exo (hp.objs.size + 1) (He.ga X.K c) none)) ⟨(hp.push (PySem.W.kdv_tup uv)).push (PySem.HandSPX.excO (He.ga X.K c) hp.objs.size), gg, dr, tk, os⟩ :=
    I.laid (t' := tk) (a := hp.objs.size + 1) (o := exo (hp.objs.size + 1) (He.ga X.K c) none) (h' := (hp.push (PySem.W.kdv_tup uv)).push (PySem.HandSPX.excO (He.ga X.K c) hp.objs.size)) kk hsz (exo_ok hget)
  have a4 : Agr m2.length al2 (alx al2 m2.length (hp.objs.size + 1)) := ⟨fun k hk => alx_old hk, rfl⟩
  have rS : RepL X.K B2 (alx al2 m2.length (hp.objs.size + 1)) (m2.length + 1) (.ref (hp.objs.size + 1) :: vs) (.hdl m2.length :: ws) := ⟨⟨by rw [alx_here], by omega⟩, r1.mono (Ex.refl _) a4 (by omega)⟩
  have rZ : RepL X.K B2 (alx al2 m2.length (hp.objs.size + 1)) (m2.length + 1) zs us := r2.mono (Ex.refl _) a4 (by omega)
  have lvn : (V.ref (hp.objs.size + 1) :: vs).length = n + 1 := congrArg (· + 1) lv
  have rW := hrel B2 _ _ _ _ _ _ lvn lz rS rZ
  have rv' : Vals (V.ref (hp.objs.size + 1) :: vs) (Value.ref (hp.objs.size + 1) :: uv) := Paired.cons (show RelV (V.ref (hp.objs.size + 1)) (Value.ref (hp.objs.size + 1)) from rfl) rv
  have rr := hbn.rel rv' rk
  have hlen : (gV (.ref (hp.objs.size + 1) :: vs) zs).length = ps.length := hvl _ _ lvn lz
  have bt := hbn.to ⟨(hp.push (PySem.W.kdv_tup uv)).push (PySem.HandSPX.excO (He.ga X.K c) hp.objs.size), gg, dr, tk, os⟩ (.ref (hp.objs.size + 1) :: uv) kv I2.kIn (by rw [List.length_cons, ← rv.length, lv]) (rk.length.symm.trans lz)
  have hus : uv.length ≤ sizeLine := by rw [← Paired.length rv, sizeLine_eq]; omega
  generalize hgv : gV (.ref (hp.objs.size + 1) :: vs) zs = gvs at rW rr hlen
  generalize hgw : gW (.hdl m2.length :: ws) us = gws at rW q
  match gws, q, rW with
  | .hdl i :: r, q, rW =>
  have q' : (if i = m2.length then (datsOf r).bind fun ds => (exF fls ds).map fun fs => (Out.ok (.dat (.exc c fs)), m2) else none) = some (o, m') := q
  split at q'
  rotate_left
  · cases q'
  next hi =>
  subst hi
  obtain ⟨ds, ed, q2⟩ := Option.bind_eq_some_iff.mp q'
  obtain ⟨fs, ef, q3⟩ := Option.map_eq_some_iff.mp q2
  cases q3
  match gvs, rW, hlen, rr with
  | v0 :: ys, rW, hlen, rr =>
  obtain ⟨⟨e0, _⟩, ry⟩ := rW
  rw [alx_here] at e0
  subst e0
  have rd := dats_rep ry ed
  refine wpAny_call (DmX.callK FB (fun Y => DmX.ownTail_contains Y bm hbm) (I.kIn _ _ hC) (PySem.W.looks_findIn I.kIn iC) (fun self => PySem.W.bind_fn I.kIn self tI) hus
    (codeAny_mono (F.run _ X.stack _ _ ⟨Value.ref (hp.objs.size + 1) :: uv, ks.zip kv⟩ _ _ (fun v H3 => v = .non ∧ Q (.ref (hp.objs.size + 1)) H3) E0 (under_guards hG) (hr.make _ uv _) (I2.env0.make _ uv _) bt rr
      ⟨by rw [hlen, hps], _, ys, rfl, upd_same, fun dx hd ne => ⟨rfl, ?_⟩⟩) fun r s' hq => ?_))
  · obtain ⟨B', x', wd', rep'⟩ := exLay_rep (c := c) wd2 rd ef hx (by rw [upd_ne ne] at hd; exact hd) ne
    exact h B' al2 _ _ (e2.trans x') g2 wd' rep'
  · cases r with
    | error er => exact (passL pins _ _ _ er s' I2 hq)
    | ok fl =>
      cases fl with
      | ret u =>
        obtain ⟨v, H', I3, rv3, ev, q3⟩ := I2.after hq
        subst ev
        exact ⟨rv3, ⟨V.ref (hp.objs.size + 1), H', I3, rfl, q3⟩⟩
      | next => exact False.elim hq
      | brk => exact False.elim hq
      | cont => exact False.elim hq
end
end Dm
/-! Dm, part 28: C(e, ..), C an own exception: the expression. -/
namespace Dm
open PySem PySem.Spec PyProof.Rows L2
open Evl (Ex)
/-- an own exception class that is made by its own __init__ -/
structure ExcK (P : Program) (w : World) (K : PySem.W.Frag) (mg : Str → Option Value) (bs : Heap) (c : Str) (k n : Nat) (ks fls : List Str) (gW : List W → List W → List W) : Prop where
  oex : OexG K (He.ga K c)
  ex : ∃ f fd ps, PySem.W.findIn K (.ref (He.ga K c)) "__init__" = some (some (.ref f)) ∧ PySem.W.typeIn K (.ref f) = some (.type "function") ∧ FnG P w K mg bs k f fd ps (spX (He.ga K c) fls) ∧ Bdg K fd ps (n + 1) ks gW ∧ ps.length = fls.length + 1
  n : n ≤ 1000
def mExc (c : Str) (fls : List Str) (n nk : Nat) (gW : List W → List W → List W) (ma mk : AM) : EM := fun ρ m => bnd (ma ρ m) fun ws m1 => bnd (mk ρ m1) fun us m2 => if ws.length = n ∧ us.length = nk then exEnd c fls m2.length m2 (gW (.hdl m2.length :: ws) us) else none
theorem exEnd_len {c : Str} {fls : List Str} {j : Nat} {m m' : Mem} {ws : List W} {o : Out W} (q : exEnd c fls j m ws = some (o, m')) : m' = m := by
  unfold exEnd at q
  split at q
  · split at q
    · obtain ⟨ds, _, q2⟩ := Option.bind_eq_some_iff.mp q
      obtain ⟨fs, _, q3⟩ := Option.map_eq_some_iff.mp q2
      cases q3; rfl
    · cases q
  · cases q
section
variable {X : Cx} {c : Str} {e : Expr} {es : List Expr} {kws : List Keyword} {ma mk : AM} {p pos : Pos} {j k n : Nat} {ks fls : List Str} {gW : List W → List W → List W}
theorem exc_len {nk : Nat} (ha : ∀ ρ m oo m', ma ρ m = some (oo, m') → m.length ≤ m'.length) (hw : ∀ ρ m oo m', mk ρ m = some (oo, m') → m.length ≤ m'.length) : ∀ ρ m oo m', mExc c fls n nk gW ma mk ρ m = some (oo, m') → m.length ≤ m'.length := fun ρ m oo m' q => by
  rcases bnd_cases q with ⟨ws, m1, e1, q1⟩ | ⟨cc, fs, e1, rfl⟩
  · have l1 := ha _ _ _ _ e1
    rcases bnd_cases q1 with ⟨us, m2, e2, q2⟩ | ⟨cc, fs, e2, rfl⟩
    · have l2 := hw _ _ _ _ e2
      split at q2
      · rw [exEnd_len q2]; exact Nat.le_trans l1 l2
      · cases q2
    · exact Nat.le_trans l1 (hw _ _ _ _ e2)
  · exact ha _ _ _ _ e1
theorem se_exc (F : ExcK X.prog X.w X.K X.mg X.base c j n [] fls gW) (hj : j ≤ k) (hr : Room (k + 1) X.A) (hG : X.A.guards = some []) (hg : Gl X c) (hm : X.mg c = some (.ref (He.ga X.K c)))
    (ha : SA X (e :: es) ma) (h0 : noStar e = true := by rfl) (h1 : es.all noStar = true := by rfl) (hdb : (c == ("__debug__" : Str)) = false := by decide) : SE X (.Call (.Name c p) (e :: es) [] pos) (mExc c fls n 0 gW ma mNil) := by
  obtain ⟨T, ⟨f, fd, ps, iC, tI, G, b, hps⟩, hn⟩ := F
  refine ⟨exc_len ha.len (sk_nil (X := X)).len, fun ρ m o m' q B al σ H Q wd rs h pins s I => ?_⟩
  refine wpAny_Call_Name_kw (ld_glob I hg hm ?_ hdb)
  refine PySem.W.callWith_K (h₀ := X.base) I.ok.mod.kin T.kC (thn (ha.seq (Q' := fun vs H1 => ∀ pins s1 us, Inv X pins σ H1 s1 → Vals vs us → wpAny (model X.prog X.w) X.A (call (.ref (He.ga X.K c)) us) (EP X pins σ Q) X.xe s1) q wd rs h.res (fun ws m1 q1 l1 B1 al1 vs1 H1 e1 g1 wd1 r1 pins s1 us I1 ru => ?_) pos pins s I)
    fun us s1 ⟨vs, H1, I1, r, q⟩ => ⟨I1.kIn, q pins s1 us I1 r⟩) (starEach_cons h0) (star_any h1)
  have q2 : (if ws.length = n ∧ ([] : List W).length = 0 then exEnd c fls m1.length m1 (gW (.hdl m1.length :: ws) []) else none) = some (o, m') := q1
  split at q2
  · next hl => exact exc_run (ks := []) (kv := []) (zs := []) (us := []) T iC tI (G.mono hj) hr hG b hps h l1 e1 g1 wd1 r1 trivial hl.1 rfl hn q2 I1 ru .nil
  · cases q2
theorem se_excK0 (F : ExcK X.prog X.w X.K X.mg X.base c j 0 ks fls gW) (hj : j ≤ k) (hr : Room (k + 1) X.A) (hG : X.A.guards = some []) (hg : Gl X c) (hm : X.mg c = some (.ref (He.ga X.K c)))
    (hw : SK X kws mk) (hall : (kws.map (·.arg)).all (·.isSome) = true := by rfl) (hks : (kws.map (·.arg)).filterMap id = ks := by rfl) (hdb : (c == ("__debug__" : Str)) = false := by decide) :
    SE X (.Call (.Name c p) [] kws pos) (mExc c fls 0 ks.length gW mNil mk) := by
  obtain ⟨T, ⟨f, fd, ps, iC, tI, G, b, hps⟩, hn⟩ := F
  refine ⟨exc_len (sa_nil (X := X)).len hw.len, fun ρ m o m' q B al σ H Q wd rs h pins s I => ?_⟩
  refine wpAny_Call_Name_kw (ld_glob I hg hm ?_ hdb)
  have q' : bnd (mk ρ m) (fun us m2 => if ([] : List W).length = 0 ∧ us.length = ks.length then exEnd c fls m2.length m2 (gW [.hdl m2.length] us) else none) = some (o, m') := q
  refine PySem.W.callWith_KW0 (h₀ := X.base) I.ok.mod.kin T.kC (kw_all hall) ?_ (by show (false || _) = false; rw [kw_any hall]; rfl)
  rw [kw_ks hks]
  refine thn (hw.seq (Q' := fun zs H2 => ∀ pins s2 ks2, Inv X pins σ H2 s2 → Vals zs ks2 → wpAny (model X.prog X.w) X.A (call (.ref (He.ga X.K c)) [] (ks.zip ks2)) (EP X pins σ Q) X.xe s2) q' wd rs h.res (fun us2 m2 q2 l2 B2 al2 vs2 H2 e2 g2 wd2 r2 pins s2 ks2 I2 rk => ?_) pos pins s I)
    fun ks2 s2 ⟨zs, H2, I2, rk, q⟩ => ⟨I2.kIn, q pins s2 ks2 I2 rk⟩
  split at q2
  · next hl => exact exc_run (uv := []) (vs := []) (ws := []) T iC tI (G.mono hj) hr hG b hps h l2 e2 g2 wd2 trivial r2 rfl hl.2 hn q2 I2 .nil rk
  · cases q2
end
end Dm
/-! Dm, part 29: e.f, e an own exception as data. -/
namespace Dm
open PySem PySem.Spec PyProof.Rows L2
open Evl (Ex)
def fXf (c : Str) (f : Str) : D → Option D
  | .exc c' fs => if c' = c then fs.lookup f else none
  | _ => none
theorem se_xf {X : Cx} {e : Expr} {me : EM} {f c : Str} {pos : Pos} (he : SE X e me) (T : XfC X.K (He.ga X.K c)) (hno : PySem.W.findIn X.K (.ref (He.ga X.K c)) f = some none) (hb : attributeBase e f X.env (eval e X.env) = eval e X.env := by rfl) : SE X (.Attribute e f pos) (mUn (fXf c f) me) := by
  refine ⟨un_len he, fun ρ m o m' q B al σ H Q wd rs h pins s I => ?_⟩
  have t := un_run (r := fun x H Q => ∃ a dx gs v, x = .ref a ∧ H a = some (exo a (He.ga X.K c) (some dx)) ∧ H dx = some (exd dx gs) ∧ gs.lookup f = some v ∧ Q v H) (fun dx d hf B H x e hx Q k => ?_) he q wd rs h
  · refine attr_of hb (thn (t pins s I) fun u s1 ⟨x, H1, I1, rx, a, dx, gs, v, ex, ea, ed, l, q⟩ => ?_)
    subst ex
    obtain rfl : u = Value.ref a := rx
    obtain ⟨t1, ho⟩ := exo_at I1.hok ea
    obtain ⟨mA, hns, hr⟩ := exd_at I1.hok ed
    obtain ⟨od, hod, hl⟩ := lookIn_ns hns
    obtain ⟨u, hu, ru⟩ := RelO.some_of (v := v) (o := mA f) (by rw [← l]; exact hr f)
    have J : PySem.W.InstAt s1.heap a _ (He.ga X.K c) (some od) := ⟨ho, rfl, rfl, hod⟩
    exact HandSPX.exc_get I1.kIn J T.ga T.gg T.exC (PySem.W.findObj_own T.hdC hno rfl (by rw [hl, hu])) (handed_of ru) ⟨v, H1, I1.tok _, ru, q⟩
  · cases dx with
    | exc c' fs =>
      have hf' : (if c' = c then fs.lookup f else none) = some d := hf
      split at hf'
      · next hcc =>
        subst hcc
        cases (hx : Rep X.K B x (.exc c' fs)) with
        | exc0 _ => cases hf'
        | exc h1 h2 r =>
          rcases repF_lookup (f := f) r with ⟨z, _⟩ | ⟨d', v, z1, z2, z3⟩
          · rw [z] at hf'; cases hf'
          · rw [z1] at hf'; cases hf'
            exact ⟨_, _, _, v, rfl, e _ _ h1, e _ _ h2, z2, k B v H (Gr.refl e) z3⟩
      · cases hf'
    | _ => cases hf
end Dm
/-! Dm, part 30: isinstance(e, C), e an own exception as data. -/
namespace Dm
open PySem PySem.Spec PyProof.Rows L2
open Evl (Ex)
def fIsX (tab : Str → D → Option Bool) : List D → Option D
  | [.exc c _, t] => (tab c t).map .bl
  | _ => none
/-- what isinstance asks of an own exception class -/
structure IsC (K : PySem.W.Frag) (C : Addr) : Prop where
  cl : (PySem.W.clsIn K C).isSome = true
  ga : PySem.W.findIn K (.ref C) "__getattribute__" = some (some (.builtin "BaseException.__getattribute__"))
  gg : PySem.W.findIn K (.ref C) "__getattr__" = some none
  ex : PySem.W.subIn K (.ref C) (.type "BaseException") = some true
  ha : PySem.W.findIn K (.ref C) "__class__" = some (some (.builtin "object.__class__"))
  hn : PySem.W.specialIn K (.builtin "object.__class__") "__get__" = some (some (.builtin "getset_descriptor.__get__"))
  tk : PySem.W.takesIn K (.builtin "object.__class__") = some true
  hm : PySem.W.mroIn K C (.type "object") = some true
def clsD (K : PySem.W.Frag) : D → Option Value
  | .cl c => some (.ref (He.ga K c))
  | .ty n => some (.type n)
  | _ => none
structure IsT (K : PySem.W.Frag) (tab : Str → D → Option Bool) : Prop where
  ok : ∀ c t b, tab c t = some b → IsC K (He.ga K c) ∧ ∃ u, clsD K t = some u ∧ PySem.W.kitOne K (.ref (He.ga K c)) u = some b
theorem cd_isx {X : Cx} {tab : Str → D → Option Bool} (T : IsT X.K tab) : CallR X (.builtin "isinstance") (rCD X (fIsX tab)) := by
  rintro pins s σ H xs us Q I rs ⟨B, ds, d, e, hx, hf, k⟩
  unfold fIsX at hf
  split at hf
  · next c fs t =>
    obtain ⟨b, hb, rfl⟩ := Option.map_eq_some_iff.mp hf
    obtain ⟨x, y, rfl, hv, hy⟩ := vwl2 hx
    obtain ⟨C, u, hu, hk⟩ := T.ok c t b hb
    obtain ⟨u1, u2, rfl, r1, r2⟩ := vals2 rs
    have e2 : u2 = u := by
      cases t with
      | cl c2 => cases hu; cases (show Rep X.K B y (.cl c2) from hy); exact r2
      | ty n => cases hu; cases (show Rep X.K B y (.ty n) from hy); exact r2
      | _ => cases hu
    subst e2
    cases (show Rep X.K B x (.exc c fs) from hv) with
    | exc0 h1 =>
      cases r1
      obtain ⟨t1, ho⟩ := exo_at I.hok (e _ _ h1)
      exact PySem.W.kia_one (PySem.W.kitx_exc (od := none) C.cl C.ga C.gg C.ex C.ha C.hn C.tk C.hm) I.kIn ⟨ho, rfl, rfl, trivial⟩ hk (fun z => nomatch z) fun tk => ⟨.bl b, H, I.tok tk, rfl, k B _ H (Gr.refl e) (.bl _)⟩
    | exc h1 h2 r =>
      cases r1
      obtain ⟨t1, ho⟩ := exo_at I.hok (e _ _ h1)
      obtain ⟨mA, hns, hr⟩ := exd_at I.hok (e _ _ h2)
      obtain ⟨od, hod, hl⟩ := lookIn_ns hns
      exact PySem.W.kia_one (PySem.W.kitx_exc (od := some od) C.cl C.ga C.gg C.ex C.ha C.hn C.tk C.hm) I.kIn ⟨ho, rfl, rfl, hod⟩ hk (fun z => nomatch z) fun tk => ⟨.bl b, H, I.tok tk, rfl, k B _ H (Gr.refl e) (.bl _)⟩
  · cases hf
end Dm
/-! Dm, part 31: C(), C an own exception without an __init__. -/
namespace Dm
open PySem PySem.Spec PyProof.Rows L2
open Evl (Ex)
structure OexB (K : PySem.W.Frag) (C : Addr) : Prop where
  cls : ∃ (tl : List Value) (Bs newId initId : String) (nm q : Str) (N : Addr) (bs bm : List Value) (sn : List Str) (sub : List Value) (ab : Bool) (col : Option Bool) (dd : Option Addr) (k0 k1 k2 k3 k5 : Option Value),
    ExcBaseFacts Bs newId initId tl ∧ K.lookup C = some (excClassObj nm q C N bs bm true sn sub ab col dd k0 k1 k2 k3 k5 newId) ∧ DmX.ownTail tl bm = true ∧ PySem.W.findIn K (.ref C) "__init__" = some (some (.builtin initId))
  kC : PySem.W.keepIn K (.ref C) = true
def mExc0 (c : Str) : EM := fun _ m => some (.ok (.dat (.exc c [])), m)
theorem se_exc0 {X : Cx} {c : Str} {p pos : Pos} (T : OexB X.K (He.ga X.K c)) (hg : Gl X c) (hm : X.mg c = some (.ref (He.ga X.K c))) (hdb : (c == ("__debug__" : Str)) = false := by decide) : SE X (.Call (.Name c p) [] [] pos) (mExc0 c) := by
  refine ⟨fun ρ m o m' q => by cases q; exact Nat.le_refl _, fun ρ m o m' q B al σ H Q wd rs h pins s I => ?_⟩
  cases q
  refine wpAny_Call_Name_kw (ld_glob I hg hm ?_ hdb)
  refine PySem.W.callWith_K0 I.kIn T.kC ?_
  obtain ⟨tl, Bs, newId, initId, nm, qn, N, bs, bm, sn, sub, ab, col, dd, k0, k1, k2, k3, k5, FB, hC, hbm, hi⟩ := T.cls
  obtain ⟨hp, gg, dr, tk, os⟩ := s
  refine PySem.W.call_B FB (fun Y => DmX.ownTail_contains Y bm hbm) (I.kIn _ _ hC) (PySem.W.looks_findIn I.kIn hi) (Nat.zero_le _) fun h' kk e1 e2 => ?_
  have hsz : hp.objs.size ≤ hp.objs.size + 1 := Nat.le_succ _
  have hx : H (hp.objs.size + 1) = none := I.hok.fresh hsz
  have g1 := Gr.lay wd.ext (o := exo (hp.objs.size + 1) (He.ga X.K c) none) hx
  exact ⟨V.ref (hp.objs.size + 1), _, I.laid (t' := tk) (a := hp.objs.size + 1) (o := exo (hp.objs.size + 1) (He.ga X.K c) none) (h' := h') kk hsz (exo_ok e1), rfl, h _ al _ _ g1.b Agr.refl (wd.grow g1) (.exc0 upd_same)⟩
end Dm
/-! Dm, part 32: a hook that looks at the written part for more than the kit's facts. -/
namespace Dm
open PySem PySem.Spec PyProof.Rows L2
abbrev AlX : Type := He.AlD × Bool
def obsX (n : Nat) (fa : List He.Fa) (fn : List He.DefD) (ex : PySem.W.Frag → Bool) (g : Addr → Option Obj) : AlX := (He.obsDG n fa fn g, ex (He.frG g (He.asD g n)))
def hookX (n : Nat) (fa : List He.Fa) (fn : List He.DefD) (ex : PySem.W.Frag → Bool) : PySem.W.Hook where
  α := AlX
  obs := fun s => obsX n fa fn ex s.heap.get?
  val := fun _ => (He.valD fn, true)
  says := fun _ h => ∃ K : PySem.W.Frag, K.In h ∧ He.SaysD fa fn K ∧ ex K = true
  of := fun _ _ e => ⟨_, He.frG_in, congrArg (fun z : AlX => z.1) e, congrArg (fun z : AlX => z.2) e⟩
  keeps := fun _ _ _ ⟨K, hK, c, d⟩ k => ⟨K, PySem.W.Frag.In.keeps hK k, c, d⟩
theorem obsX_eq {n : Nat} {fa : List He.Fa} {fn : List He.DefD} {ex : PySem.W.Frag → Bool} {g : Addr → Option Obj} {s : Shared} (h : ∀ a, g a = s.heap.get? a) : obsX n fa fn ex g = (hookX n fa fn ex).obs s := by
  have e : g = s.heap.get? := funext h
  rw [e] <;> rfl
end Dm
/-! Dm, part 33: checks of own exception classes. -/
namespace Dm
open PySem PySem.Spec PyProof.Rows L2
def oexCls (K : PySem.W.Frag) (C : Addr) (tl : List Value) (newId : String) : Bool := match K.lookup C with
  | some ⟨.type "type", _, .cls cd, sl⟩ => (match cd.mro, sl.toList with
    | .ref C' :: bm, [_, _, _, _, some (.builtin n), _] => C' == C && n == newId && !cd.hasDel && cd.hasDict && DmX.ownTail tl bm
    | _, _ => false)
  | _ => false
theorem oexCls_ok {K : PySem.W.Frag} {C : Addr} {tl : List Value} {newId : String} (q : oexCls K C tl newId = true) : ∃ nm qn N bs bm sn sub ab col dd k0 k1 k2 k3 k5, K.lookup C = some (excClassObj nm qn C N bs bm true sn sub ab col dd k0 k1 k2 k3 k5 newId) ∧ DmX.ownTail tl bm = true := by
  unfold oexCls at q
  split at q
  · rename_i dd cd sl ho
    split at q
    · rename_i C' bm k0 k1 k2 k3 n k5 hm hs
      simp only [Bool.and_eq_true, beq_iff_eq, Bool.not_eq_true'] at q
      obtain ⟨⟨⟨⟨rfl, rfl⟩, hdel⟩, hdct⟩, ht⟩ := q
      obtain ⟨nm, bs, mro, ns, qn, hd, sn, sb, ab, col, del⟩ := cd
      dsimp only at hm hdel hdct
      subst hm hdel hdct
      have hsl : sl = #[k0, k1, k2, k3, some (.builtin n), k5] := by
        apply Array.toList_inj.mp; exact hs
      subst hsl
      exact ⟨nm, qn, ns, bs, bm, sn, sb, ab, col, dd, k0, k1, k2, k3, k5, ho, ht⟩
    · cases q
  · cases q
end Dm
/-! Dm, part 34: from checks to the facts of own exception classes. -/
namespace Dm
open PySem PySem.Spec PyProof.Rows L2
inductive EB where | ve | le | re | ae
def EB.tl : EB → List Value
  | .ve => [.type "ValueError", .type "Exception", .type "BaseException", .type "object"]
  | .le => [.type "LookupError", .type "Exception", .type "BaseException", .type "object"]
  | .re => [.type "RuntimeError", .type "Exception", .type "BaseException", .type "object"]
  | .ae => [.type "ArithmeticError", .type "Exception", .type "BaseException", .type "object"]
def EB.nm : EB → String
  | .ve => "ValueError" | .le => "LookupError" | .re => "RuntimeError" | .ae => "ArithmeticError"
def EB.new : EB → String
  | .ve => "ValueError.__new__" | .le => "LookupError.__new__" | .re => "RuntimeError.__new__" | .ae => "ArithmeticError.__new__"
def EB.ini : EB → String
  | .ve => "ValueError.__init__" | .le => "LookupError.__init__" | .re => "RuntimeError.__init__" | .ae => "ArithmeticError.__init__"
theorem EB.base : ∀ b : EB, ExcBaseFacts b.nm b.new b.ini b.tl
  | .ve => F.excBase_ValueError
  | .le => F.excBase_LookupError
  | .re => F.excBase_RuntimeError
  | .ae => F.excBase_ArithmeticError
theorem EB.tail : ∀ b : EB, DmX.TailOk b.tl
  | .ve => DmX.tailVE
  | .le => DmX.tailLE
  | .re => DmX.tailRE
  | .ae => DmX.tailAE
/-- the check of one class: its base -/
def exB (K : PySem.W.Frag) (c : Str) (b : EB) : Bool :=
  oexCls K (He.ga K c) b.tl b.new && decide (PySem.W.findIn K (.ref (He.ga K c)) "__setattr__" = some (some (.builtin "object.__setattr__"))) && decide (PySem.W.typeIn K (.ref (He.ga K c)) = some (.type "type")) && PySem.W.keepIn K (.ref (He.ga K c))
    && xfB K (He.ga K c) && decide (PySem.W.findIn K (.ref (He.ga K c)) "__class__" = some (some (.builtin "object.__class__"))) && decide (PySem.W.mroIn K (He.ga K c) (.type "object") = some true)
theorem exB_oex {K : PySem.W.Frag} {c : Str} {b : EB} (h : exB K c b = true) : OexG K (He.ga K c) := by
  simp only [exB, Bool.and_eq_true, decide_eq_true_eq] at h
  obtain ⟨⟨⟨⟨⟨⟨h1, h2⟩, h3⟩, h4⟩, h5⟩, h6⟩, h7⟩ := h
  obtain ⟨nm, qn, N, bs, bm, sn, sub, ab, col, dd, k0, k1, k2, k3, k5, e1, e2⟩ := oexCls_ok h1
  exact ⟨⟨_, _, _, _, nm, qn, N, bs, bm, sn, sub, ab, col, dd, k0, k1, k2, k3, k5, b.base, b.tail, e1, e2⟩, h2, h3, h4⟩
theorem exB_xf {K : PySem.W.Frag} {c : Str} {b : EB} (h : exB K c b = true) : XfC K (He.ga K c) := by
  simp only [exB, Bool.and_eq_true, decide_eq_true_eq] at h
  obtain ⟨⟨⟨⟨⟨⟨h1, h2⟩, h3⟩, h4⟩, h5⟩, h6⟩, h7⟩ := h
  exact xfB_ok h5
end Dm
/-! Dm, part 35: a table of the own exception classes of a law. -/
namespace Dm
open PySem PySem.Spec PyProof.Rows L2
open Evl (Ex)
def EB.tyl (b : EB) : List String := [b.nm, "Exception", "BaseException", "object"]
/-- one own exception class: its name, its base, the fields its __init__ stores, its own ancestors with itself -/
structure XRow where
  c : Str
  b : EB
  flds : List Str
  anc : List Str
def XRow.ok (K : PySem.W.Frag) (owns : List Str) (tys : List String) (r : XRow) : Bool :=
  exB K r.c r.b && (r.flds.all fun f => decide (PySem.W.findIn K (.ref (He.ga K r.c)) f = some none)) &&
    (match r.flds with
      | [] => decide (PySem.W.findIn K (.ref (He.ga K r.c)) "__init__" = some (some (.builtin r.b.ini)))
      | _ => decide (PySem.W.findIn K (.ref (He.ga K r.c)) "__init__" = some (some (.ref (He.ma K (He.ga K r.c) "__init__")))) && PySem.W.isFn K (.ref (He.ma K (He.ga K r.c) "__init__"))) &&
    (owns.all fun o => decide (PySem.W.kitOne K (.ref (He.ga K r.c)) (.ref (He.ga K o)) = some (r.anc.contains o))) &&
    tys.all fun n => decide (PySem.W.kitOne K (.ref (He.ga K r.c)) (.type n) = some (r.b.tyl.contains n))
def exAll (rows : List XRow) (owns : List Str) (tys : List String) (K : PySem.W.Frag) : Bool :=
  rows.all (XRow.ok K owns tys) && decide (PySem.W.specialIn K (.builtin "object.__class__") "__get__" = some (some (.builtin "getset_descriptor.__get__"))) && decide (PySem.W.takesIn K (.builtin "object.__class__") = some true)
def xrow (rows : List XRow) (c : Str) : Option XRow := rows.find? fun r => r.c == c
theorem xrow_mem {rows : List XRow} {c : Str} {r : XRow} (h : xrow rows c = some r) : r ∈ rows ∧ r.c = c :=
  ⟨List.mem_of_find?_eq_some h, by have := List.find?_some h; exact beq_iff_eq.mp this⟩
def xTab (rows : List XRow) (owns : List Str) (tys : List String) (c : Str) (t : D) : Option Bool := (xrow rows c).bind fun r => match t with
  | .cl o => if owns.contains o = true then some (r.anc.contains o) else none
  | .ty n => if tys.contains n = true then some (r.b.tyl.contains n) else none
  | _ => none
section
variable {K : PySem.W.Frag} {rows : List XRow} {owns : List Str} {tys : List String}
theorem XRow.parts {r : XRow} (h : r.ok K owns tys = true) : exB K r.c r.b = true ∧ (∀ f ∈ r.flds, PySem.W.findIn K (.ref (He.ga K r.c)) f = some none) ∧
    (r.flds = [] → PySem.W.findIn K (.ref (He.ga K r.c)) "__init__" = some (some (.builtin r.b.ini))) ∧
    (r.flds ≠ [] → PySem.W.findIn K (.ref (He.ga K r.c)) "__init__" = some (some (.ref (He.ma K (He.ga K r.c) "__init__"))) ∧ PySem.W.isFn K (.ref (He.ma K (He.ga K r.c) "__init__")) = true) ∧
    (∀ o ∈ owns, PySem.W.kitOne K (.ref (He.ga K r.c)) (.ref (He.ga K o)) = some (r.anc.contains o)) ∧ ∀ n ∈ tys, PySem.W.kitOne K (.ref (He.ga K r.c)) (.type n) = some (r.b.tyl.contains n) := by
  unfold XRow.ok at h
  rw [Bool.and_eq_true, Bool.and_eq_true, Bool.and_eq_true, Bool.and_eq_true] at h
  obtain ⟨⟨⟨⟨h1, h2⟩, h3⟩, h4⟩, h5⟩ := h
  refine ⟨h1, fun f hf => of_decide_eq_true (List.all_eq_true.mp h2 f hf), fun e => ?_, fun e => ?_, fun o ho => of_decide_eq_true (List.all_eq_true.mp h4 o ho), fun n hn => of_decide_eq_true (List.all_eq_true.mp h5 n hn)⟩
  · rw [e] at h3; exact of_decide_eq_true h3
  · cases e2 : r.flds with
    | nil => exact absurd e2 e
    | cons a b =>
      rw [e2] at h3
      obtain ⟨h6, h7⟩ := Bool.and_eq_true_iff.mp h3
      exact ⟨of_decide_eq_true h6, h7⟩
theorem exAll_row (h : exAll rows owns tys K = true) {r : XRow} (m : r ∈ rows) : r.ok K owns tys = true := by
  unfold exAll at h
  rw [Bool.and_eq_true, Bool.and_eq_true] at h
  exact List.all_eq_true.mp h.1.1 r m
theorem exAll_isC (h : exAll rows owns tys K = true) {r : XRow} (m : r ∈ rows) : IsC K (He.ga K r.c) := by
  have hr := (XRow.parts (exAll_row h m)).1
  have x := exB_xf hr
  unfold exAll at h
  rw [Bool.and_eq_true, Bool.and_eq_true] at h
  unfold exB at hr
  rw [Bool.and_eq_true, Bool.and_eq_true, Bool.and_eq_true, Bool.and_eq_true, Bool.and_eq_true, Bool.and_eq_true] at hr
  refine ⟨?_, x.ga, x.gg, x.exC, of_decide_eq_true hr.1.2, of_decide_eq_true h.1.2, of_decide_eq_true h.2, of_decide_eq_true hr.2⟩
  obtain ⟨cd, hc, _⟩ := PySem.W.any_some x.hdC
  rw [hc]; rfl
theorem exAll_tab (h : exAll rows owns tys K = true) : IsT K (xTab rows owns tys) := ⟨fun c t b e => by
  obtain ⟨r, hr, e2⟩ := Option.bind_eq_some_iff.mp e
  obtain ⟨m, rfl⟩ := xrow_mem hr
  obtain ⟨_, _, _, _, p5, p6⟩ := (XRow.parts (exAll_row h m))
  refine ⟨exAll_isC h m, ?_⟩
  cases t with
  | cl o =>
    have e3 : (if owns.contains o = true then some (r.anc.contains o) else none) = some b := e2
    split at e3
    · next hc => cases e3; exact ⟨_, rfl, p5 o (by simpa using hc)⟩
    · cases e3
  | ty n =>
    have e3 : (if tys.contains n = true then some (r.b.tyl.contains n) else none) = some b := e2
    split at e3
    · next hc => cases e3; exact ⟨_, rfl, p6 n (by simpa using hc)⟩
    · cases e3
  | _ => cases e2⟩
/-- e.f over all the classes of the table -/
def fAt (rows : List XRow) (f : Str) : D → Option D
  | .exc c fs => (xrow rows c).bind fun r => if r.flds.contains f = true then fs.lookup f else none
  | _ => none
end
theorem se_at {X : Cx} {e : Expr} {me : EM} {f : Str} {pos : Pos} {rows : List XRow} {owns : List Str} {tys : List String} (h : exAll rows owns tys X.K = true) (he : SE X e me) (hb : attributeBase e f X.env (eval e X.env) = eval e X.env := by rfl) : SE X (.Attribute e f pos) (mUn (fAt rows f) me) := by
  refine ⟨un_len he, fun ρ m o m' q B al σ H Q wd rs ha pins s I => ?_⟩
  have t := un_run (r := fun x H Q => ∃ a C dx gs v, x = .ref a ∧ XfC X.K C ∧ PySem.W.findIn X.K (.ref C) f = some none ∧ H a = some (exo a C (some dx)) ∧ H dx = some (exd dx gs) ∧ gs.lookup f = some v ∧ Q v H) (fun dx d hf B H x e hx Q k => ?_) he q wd rs ha
  · refine attr_of hb (thn (t pins s I) fun u s1 ⟨x, H1, I1, rx, a, C, dx, gs, v, ex, T, hno, ea, ed, l, q⟩ => ?_)
    subst ex
    obtain rfl : u = Value.ref a := rx
    obtain ⟨t1, ho⟩ := exo_at I1.hok ea
    obtain ⟨mA, hns, hr⟩ := exd_at I1.hok ed
    obtain ⟨od, hod, hl⟩ := lookIn_ns hns
    obtain ⟨u, hu, ru⟩ := RelO.some_of (v := v) (o := mA f) (by rw [← l]; exact hr f)
    have J : PySem.W.InstAt s1.heap a _ C (some od) := ⟨ho, rfl, rfl, hod⟩
    exact HandSPX.exc_get I1.kIn J T.ga T.gg T.exC (PySem.W.findObj_own T.hdC hno rfl (by rw [hl, hu])) (handed_of ru) ⟨v, H1, I1.tok _, ru, q⟩
  · cases dx with
    | exc c' fs =>
      obtain ⟨r, er, hf'⟩ := Option.bind_eq_some_iff.mp (show ((xrow rows c').bind fun r => if r.flds.contains f = true then fs.lookup f else none) = some d from hf)
      obtain ⟨m, rfl⟩ := xrow_mem er
      obtain ⟨p1, p2, _⟩ := (XRow.parts (exAll_row h m))
      split at hf'
      · next hc =>
        cases (hx : Rep X.K B x (.exc r.c fs)) with
        | exc0 _ => cases hf'
        | exc h1 h2 rf =>
          rcases repF_lookup (f := f) rf with ⟨z, _⟩ | ⟨d', v, z1, z2, z3⟩
          · rw [z] at hf'; cases hf'
          · rw [z1] at hf'; cases hf'
            exact ⟨_, _, _, _, v, rfl, exB_xf p1, p2 f (by simpa using hc), e _ _ h1, e _ _ h2, z2, k B v H (Gr.refl e) z3⟩
      · cases hf'
    | _ => cases hf
end Dm
/-! Dm, part 36: the walk's short words for own exceptions. -/
namespace Dm
open PySem PySem.Spec PyProof.Rows L2
open Evl (Ex)
/-- an own class, named -/
theorem se_gcl {X : Cx} {x : Str} {pos : Pos} (hg : Gl X x) (hm : X.mg x = some (.ref (He.ga X.K x))) (hd : (x == ("__debug__" : Str)) = false := by decide) : SE X (.Name x pos) (mC (.cl x)) :=
  .ofC (pe_glob (v := .ref (He.ga X.K x)) hg hm rfl hd) fun _ => .cl x
theorem exck_of {P : Program} {w : World} {K : PySem.W.Frag} {mg : Str → Option Value} {bs : Heap} {rows : List XRow} {owns : List Str} {tys : List String} (h : exAll rows owns tys K = true) {c : Str} {flds anc : List Str} {eb : EB} (m : rows.find? (fun r => r.c == c) = some ⟨c, eb, flds, anc⟩) (hne : flds ≠ []) {k n : Nat} {fd : FuncData} {ps ks : List Str} {gW : List W → List W → List W}
    (G : ∀ (T : OexG K (He.ga K c)) (_ : ∀ f ∈ flds, PySem.W.findIn K (.ref (He.ga K c)) f = some none), FnG P w K mg bs k (He.ma K (He.ga K c) "__init__") fd ps (spX (He.ga K c) flds)) (b : Bdg K fd ps (n + 1) ks gW) (hl : ps.length = flds.length + 1) (hn : n ≤ 1000) : ExcK P w K mg bs c k n ks flds gW := by
  obtain ⟨p1, p2, p3, p4, p5, p6⟩ := XRow.parts (exAll_row h (List.mem_of_find?_eq_some m))
  obtain ⟨q1, q2⟩ := p4 hne
  exact ⟨exB_oex p1, ⟨_, _, _, q1, by unfold PySem.W.isFn at q2; exact beq_iff_eq.mp q2, G (exB_oex p1) p2, b, hl⟩, hn⟩
section
variable {X : Cx} {N : List Str} {sc : Scope} {k : Nat} {fn : Str → Bool}
theorem Good.exc (g : Good X N sc k fn) {c : Str} {j n : Nat} {fls : List Str} {gW : List W → List W → List W} {e : Expr} {es : List Expr} {ma : AM} {p pos : Pos} (F : ExcK X.prog X.w X.K X.mg X.base c j n [] fls gW) (hj : Nat.ble (j + 1) k = true) (hg : sc.names.lookup c = some .globalImplicit) (hm : X.mg c = some (.ref (He.ga X.K c)))
    (ha : SA X (e :: es) ma) (h0 : noStar e = true := by rfl) (h1 : es.all noStar = true := by rfl) (hdb : (c == ("__debug__" : Str)) = false := by decide) : SE X (.Call (.Name c p) (e :: es) [] pos) (mExc c fls n 0 gW ma mNil) :=
  se_exc F (Nat.le_refl j) (g.room.mono (Nat.le_of_ble_eq_true hj)) g.gd (g.gl hg) hm ha h0 h1 hdb
theorem Good.excK0 (g : Good X N sc k fn) {c : Str} {j : Nat} {ks fls : List Str} {gW : List W → List W → List W} {kws : List Keyword} {mk : AM} {p pos : Pos} (F : ExcK X.prog X.w X.K X.mg X.base c j 0 ks fls gW) (hj : Nat.ble (j + 1) k = true) (hg : sc.names.lookup c = some .globalImplicit) (hm : X.mg c = some (.ref (He.ga X.K c)))
    (hw : SK X kws mk) (hall : (kws.map (·.arg)).all (·.isSome) = true := by rfl) (hks : (kws.map (·.arg)).filterMap id = ks := by rfl) (hdb : (c == ("__debug__" : Str)) = false := by decide) : SE X (.Call (.Name c p) [] kws pos) (mExc c fls 0 ks.length gW mNil mk) :=
  se_excK0 F (Nat.le_refl j) (g.room.mono (Nat.le_of_ble_eq_true hj)) g.gd (g.gl hg) hm hw hall hks hdb
theorem Good.exc0 (g : Good X N sc k fn) {c : Str} {p pos : Pos} {rows : List XRow} {owns : List Str} {tys : List String} (h : exAll rows owns tys X.K = true) (m : rows.any (fun r => r.c == c && r.flds.isEmpty) = true) (hg : sc.names.lookup c = some .globalImplicit) (hm : X.mg c = some (.ref (He.ga X.K c)))
    (hdb : (c == ("__debug__" : Str)) = false := by decide) : SE X (.Call (.Name c p) [] [] pos) (mExc0 c) := by
  obtain ⟨r, hr, h2⟩ := List.any_eq_true.mp m
  obtain ⟨h3, h4⟩ := Bool.and_eq_true_iff.mp h2
  have hc : r.c = c := beq_iff_eq.mp h3
  subst hc
  obtain ⟨p1, p2, p3, p4, p5, p6⟩ := XRow.parts (exAll_row h hr)
  have hi := p3 (List.isEmpty_iff.mp h4)
  have hb := p1
  unfold exB at p1
  rw [Bool.and_eq_true, Bool.and_eq_true, Bool.and_eq_true, Bool.and_eq_true, Bool.and_eq_true, Bool.and_eq_true] at p1
  obtain ⟨nm, qn, N, bs, bm, sn, sub, ab, col, dd, k0, k1, k2, k3, k5, e1, e2⟩ := oexCls_ok p1.1.1.1.1.1.1
  exact se_exc0 ⟨⟨_, _, _, _, nm, qn, N, bs, bm, sn, sub, ab, col, dd, k0, k1, k2, k3, k5, r.b.base, e1, e2, hi⟩, p1.1.1.1.2⟩ (g.gl hg) hm hdb
theorem st_int1 : True := trivial
end
end Dm
/-! Dm, part 37: == of plain data, of dicts of plain data. -/
namespace Dm
open PySem PySem.Spec PyProof.Rows L2
open Evl (Ex)
def isKD1 : D → Bool
  | .int _ => true
  | .str _ => true
  | _ => false
def sameK : D → D → Bool
  | .int i, .int j => decide (i = j)
  | .str x, .str y => decide (x = y)
  | _, _ => false
def lookD (es : List (D × D)) (k : D) : Option D := (es.find? fun p => sameK p.1 k).map (·.2)
def hitD (es' : List (D × D)) (p : D × D) : Bool := match lookD es' p.1 with
  | none => false
  | some u => PyData.eqv (py p.2) (py u)
def flatD (es : List (D × D)) : Bool := es.all fun p => isKD1 p.1 && plD 57 p.2
def eqvD : D → D → Option Bool := fun x y => if (plD 60 x && plD 60 y) = true then some (PyData.eqv (py x) (py y)) else match x, y with
  | .dct es, .dct es' => if (flatD es && flatD es') = true then some (es.length == es'.length && es.all (hitD es')) else none
  | _, _ => none
def gEq : D → D → Option D := fun x y => (eqvD x y).map .bl
theorem sameK_kD (j k : Key) : sameK (kD j) (kD k) = decide (j = k) := by
  cases j <;> cases k <;> simp [kD, sameK]
theorem lookD_rep {K : PySem.W.Frag} {B : Hp} (k : Key) : ∀ {kvs : List (Key × V)} {es : List (D × D)}, RepK K B kvs es → (valV kvs k = none ∧ lookD es (kD k) = none) ∨ ∃ v d, valV kvs k = some v ∧ lookD es (kD k) = some d ∧ Rep K B v d ∧ d ∈ es.map (·.2)
  | _, _, .nil => .inl ⟨rfl, rfl⟩
  | _, _, .cons (k := j) (v := v) (d := d) (r := r) (es := es) h t => by
    unfold valV lookD
    rw [List.find?_cons, List.find?_cons]
    show (_ ∧ (Option.map _ (match sameK (kD j) (kD k) with | true => _ | false => _)) = none) ∨ _
    rw [sameK_kD]
    by_cases e : j = k
    · subst e
      refine .inr ⟨v, d, ?_, ?_, h, List.mem_cons_self⟩ <;> simp [sameK_kD]
    · simp only [decide_eq_false e]
      rcases lookD_rep k t with ⟨h1, h2⟩ | ⟨v', d', h1, h2, h3, h4⟩
      · exact .inl ⟨h1, h2⟩
      · exact .inr ⟨v', d', h1, h2, h3, List.mem_cons_of_mem _ h4⟩
section
variable {X : Cx} {pins : List (Addr × Obj)} {σ : L2.St} {H : Hp} {s : Shared}
theorem pl_eqP (R : Rm X) (I : Inv X pins σ H s) {x y : V} {dx dy : D} {v u : Value} {A : Around} (hA : A.units ≤ X.A.units + 1) (hx : Rep X.K H x dx) (hy : Rep X.K H y dy) (px : plD 57 dx = true) (py' : plD 57 dy = true) (rx : RelV x v) (ry : RelV y u) : SeqAt.EqP X.prog X.w A s v u (PyData.eqv (py dx) (py dy)) := by
  obtain ⟨as, r1, _⟩ := hx.reads I R.sm (n := 57) (.inl px) rx
  obtain ⟨bs, r2, _⟩ := hy.reads I R.sm (n := 57) (.inl py') ry
  obtain ⟨p1, d1⟩ := plD_ok 57 dx px
  obtain ⟨p2, d2⟩ := plD_ok 57 dy py'
  have := R.un
  exact (SeqAt.eqAt_plain _ _ _ _ _ _ _ _ r1 r2 p1 p2 (by omega)).eqP
theorem hits_of (R : Rm X) (I : Inv X pins σ H s) {A : Around} (hA : A.units ≤ X.A.units + 1) {ls : List (Key × V)} {es' : List (D × D)} {vb : List (Key × Value)} (rb : KV ls vb) (hb : RepK X.K H ls es') (fb : flatD es' = true) :
    ∀ {ks : List (Key × V)} {es : List (D × D)} {va : List (Key × Value)}, RepK X.K H ks es → flatD es = true → KV ks va → PySem.W.KeqHitsP X.prog X.w A s vb va (es.all (hitD es'))
  | _, _, _, .nil, _, r => by cases r; exact .nil
  | _, _, _, .cons (k := k) (v := v) (d := d) (es := es) h t, f, r => by
    have f' : (isKD1 (kD k) && plD 57 d) = true ∧ flatD es = true := by
      unfold flatD at f
      rw [List.all_cons, Bool.and_eq_true] at f
      exact f
    have pd := (Bool.and_eq_true_iff.mp f'.1).2
    cases r with
    | @cons p q ps qs r1 r2 =>
      obtain ⟨key, vv⟩ := q
      obtain ⟨h1, h2⟩ := r1
      have h1' : k = key := h1
      subst h1'
      rw [List.all_cons]
      have ih := hits_of R I hA rb hb fb t f'.2 r2
      have rv := rb.val k
      rcases lookD_rep k hb with ⟨z1, z2⟩ | ⟨w, dw, z1, z2, z3, z4⟩
      · rw [z1] at rv
        have e0 : hitD es' (kD k, d) = false := by unfold hitD; rw [show lookD es' (kD k, d).1 = none from z2]
        rw [e0, Bool.false_and]
        exact .miss (RelO.none_of rv)
      · rw [z1] at rv
        obtain ⟨u, hu, ru⟩ := rv.some_of
        have e0 : hitD es' (kD k, d) = PyData.eqv (py d) (py dw) := by unfold hitD; rw [show lookD es' (kD k, d).1 = some dw from z2]
        rw [e0]
        have pw : plD 57 dw = true := by
          obtain ⟨p, hp, rfl⟩ := List.mem_map.mp z4
          exact (Bool.and_eq_true_iff.mp (List.all_eq_true.mp fb p hp)).2
        exact .hit hu (pl_eqP R I hA h z3 pd pw h2 ru) ih
theorem dct_rep {K : PySem.W.Frag} {x : V} {es : List (D × D)} (h : Rep K H x (.dct es)) (f : flatD es = true) : ∃ a kvs, x = .ref a ∧ Rd H a (.dK kvs) ∧ RepK K H kvs es := by
  cases h with
  | dct r1 r2 => exact ⟨_, _, rfl, r1, r2⟩
  | dctT r1 r2 => cases r2 <;> simp [flatD, isKD1] at f
end
theorem od_geq {X : Cx} (R : Rm X) : OpR X (compareOp .Eq) (rDD X gEq) := by
  rintro pins s σ H x y v u Q I rx ry ⟨B, dx, dy, d, e, hx, hy, hf, k⟩
  obtain ⟨b, hb, rfl⟩ := Option.map_eq_some_iff.mp hf
  unfold eqvD at hb
  split at hb
  · next hc =>
    cases hb
    obtain ⟨c1, c2⟩ := Bool.and_eq_true_iff.mp hc
    obtain ⟨⟨as, r1⟩, ⟨bs, r2⟩, p1, p2, hu⟩ := two_reads R I e hx hy rx ry c1 c2
    exact SeqAt.eq_plain r1 r2 p1 p2 hu ⟨.bl _, H, I, rfl, k B _ H (Gr.refl e) (.bl _)⟩
  · split at hb
    · rename_i es es' _
      split at hb
      · next hc =>
        cases hb
        obtain ⟨c1, c2⟩ := Bool.and_eq_true_iff.mp hc
        obtain ⟨a, kvs, rfl, ra, ka⟩ := dct_rep (hx.rep e) c1
        obtain ⟨a', kvs', rfl, rb, kb⟩ := dct_rep (hy.rep e) c2
        cases rx
        cases ry
        obtain ⟨_, ya, va, va1, da⟩ := dk_rd I.hok ra
        obtain ⟨_, yb, vb, vb1, db⟩ := dk_rd I.hok rb
        have hu := R.un
        refine PySem.W.rcP_dicts (knd := mixKind X.prog X.w) (r := es.all (hitD es')) ya yb da db (by omega) (fun _ => hits_of R I (Nat.le_refl _) vb1 kb c2 ka c1 va1) _ _ ⟨.bl _, H, I, ?_, k B _ H (Gr.refl e) (.bl _)⟩
        have e1 : va.length = es.length := by rw [← va1.length]; exact RepK.length ka
        have e2 : vb.length = es'.length := by rw [← vb1.length]; exact RepK.length kb
        rw [e1, e2]
        rfl
      · cases hb
    · cases hb
end Dm
namespace Dm
open PySem PySem.Spec PyProof.Rows L2
section
variable {x y : Int} {s t : Str} {p q : Bool}
@[simp] theorem gEq_int : gEq (.int x) (.int y) = some (.bl (x == y)) := rfl
@[simp] theorem gEq_str : gEq (.str s) (.str t) = some (.bl (s == t)) := rfl
@[simp] theorem gEq_bl : gEq (.bl p) (.bl q) = some (.bl (p == q)) := rfl
end
end Dm
/-! Dm, part 38: bodies step by step. -/
namespace Dm
open PySem PySem.Spec PyProof.Rows L2
section
variable {ρ ρ1 ρ2 : Slots} {m m1 m2 : Mem} {a b : SM} {w : W} {i : Nat} {me : EM} {mi : IM} {mg : GM} {ds : List D} {f : Fl} {d : D}
theorem seq_nx (h : a ρ m = some (.nx ρ1, m1)) : sSeq a b ρ m = b ρ1 m1 := by rw [sSeq_ap, h, sThen_nx]
theorem seq_rt (h : a ρ m = some (.rt w, m1)) : sSeq a b ρ m = some (.rt w, m1) := by rw [sSeq_ap, h, sThen_rt]
theorem set_nx (h : me ρ m = some (.ok w, m1)) : sSet i me ρ m = some (.nx (ρ.set i (some w)), m1) := by rw [sSet_ap, h]; rfl
theorem seq_set (h : me ρ m = some (.ok w, m1)) : sSeq (sSet i me) b ρ m = b (ρ.set i (some w)) m1 := seq_nx (set_nx h)
theorem ret_rt (h : me ρ m = some (.ok w, m1)) : sRet me ρ m = some (.rt w, m1) := by rw [sRet_ap, h]; rfl
theorem for_it (h : mi ρ m = some (.ok ds, m1)) : sFor mi mg b ρ m = forL mg b ds ρ m1 := by unfold sFor; rw [h]; rfl
theorem forL_nil : forL mg b [] ρ m = some (.nx ρ, m) := rfl
theorem forL_nx {r : List D} (h1 : mg (.dat d) ρ m = some (.nx ρ1, m1)) (h2 : b ρ1 m1 = some (.nx ρ2, m2)) : forL mg b (d :: r) ρ m = forL mg b r ρ2 m2 := by
  rw [forL, h1]; dsimp only; rw [h2]
theorem forL_rt {r : List D} (h1 : mg (.dat d) ρ m = some (.nx ρ1, m1)) (h2 : b ρ1 m1 = some (.rt w, m2)) : forL mg b (d :: r) ρ m = some (.rt w, m2) := by
  rw [forL, h1]; dsimp only; rw [h2]
theorem iAny_lst (h : me ρ m = some (.ok (.dat (.lst ds)), m1)) : iAny me ρ m = some (.ok ds, m1) := by
  unfold iAny
  rw [h]
  rfl
theorem fn_rt {N : List Str} {ws : List W} (h : b (ws.map some ++ List.replicate (N.length - ws.length) none) m = some (.rt w, m1)) : mFn N b ws m = some (.ok w, m1) := by rw [mFn_ap, h]; rfl
end
end Dm
namespace Lw
open PySem PySem.Spec PyProof.Rows L2
def top (i : Nat) : Stmt := PySem.Challenge.pw_surepins_k11_errors.main.body.getD i (.Pass ⟨0, 0, 0, 0⟩)
def sub (i j : Nat) : Stmt := match top i with
  | .ClassDef _ _ _ b _ _ _ _ _ _ _ => b.getD j (.Pass ⟨0, 0, 0, 0⟩)
  | _ => .Pass ⟨0, 0, 0, 0⟩
abbrev R : PySem.W.OpenRow := PySem.W.OpenLaw.row PySem.Challenge.rw_surepins_k11_errors
def loose : List PySem.Str := ([("PinsError" : PySem.Str), ("InvalidName" : PySem.Str), ("InvalidNames" : PySem.Str), ("InvalidPlaces" : PySem.Str), ("InvalidPlace" : PySem.Str), ("InvalidFacts" : PySem.Str), ("InvalidSign" : PySem.Str), ("InvalidPosition" : PySem.Str), ("InvalidPin" : PySem.Str), ("InvalidPlan" : PySem.Str), ("InvalidTimes" : PySem.Str), ("InvalidNumber" : PySem.Str), ("InvalidCrowds" : PySem.Str), ("InvalidPairs" : PySem.Str), ("InvalidParents" : PySem.Str), ("InvalidBranches" : PySem.Str), ("InvalidText" : PySem.Str), ("InvalidClaim" : PySem.Str), ("InvalidCommand" : PySem.Str), ("MissingError" : PySem.Str), ("UnknownName" : PySem.Str), ("UnknownEnd" : PySem.Str), ("StateError" : PySem.Str), ("SameName" : PySem.Str), ("CommonName" : PySem.Str), ("OtherNames" : PySem.Str), ("NoLot" : PySem.Str), ("NothingToUndo" : PySem.Str), ("CommandFailed" : PySem.Str), ("LimitError" : PySem.Str)] : List PySem.Str) ++ ([("TooMany" : PySem.Str), ("_law_pot" : PySem.Str), ("_law_draw" : PySem.Str), ("_law_pick" : PySem.Str), ("_law_thing" : PySem.Str), ("_law_pins" : PySem.Str), ("_law_which_pin" : PySem.Str), ("_law_rest" : PySem.Str), ("_law_which_rest" : PySem.Str), ("_law_bases" : PySem.Str), ("_law_classes_right" : PySem.Str), ("_law_told" : PySem.Str), ("_law_by_name" : PySem.Str), ("_law_right" : PySem.Str)] : List PySem.Str)
def fn : List He.DefD := [⟨("_law_pot", none), "_law_pot", "_law_pot", defArgs (top 33), defBody (top 33), defScope (top 33), [], []⟩,
  ⟨("_law_draw", none), "_law_draw", "_law_draw", defArgs (top 34), defBody (top 34), defScope (top 34), [], []⟩,
  ⟨("_law_pick", none), "_law_pick", "_law_pick", defArgs (top 35), defBody (top 35), defScope (top 35), [], []⟩,
  ⟨("_law_thing", none), "_law_thing", "_law_thing", defArgs (top 36), defBody (top 36), defScope (top 36), [], []⟩,
  ⟨("_law_pins", none), "_law_pins", "_law_pins", defArgs (top 37), defBody (top 37), defScope (top 37), [], []⟩,
  ⟨("_law_which_pin", none), "_law_which_pin", "_law_which_pin", defArgs (top 38), defBody (top 38), defScope (top 38), [], []⟩,
  ⟨("_law_rest", none), "_law_rest", "_law_rest", defArgs (top 39), defBody (top 39), defScope (top 39), [], []⟩,
  ⟨("_law_which_rest", none), "_law_which_rest", "_law_which_rest", defArgs (top 40), defBody (top 40), defScope (top 40), [], []⟩,
  ⟨("_law_bases", none), "_law_bases", "_law_bases", defArgs (top 41), defBody (top 41), defScope (top 41), [], []⟩,
  ⟨("_law_classes_right", none), "_law_classes_right", "_law_classes_right", defArgs (top 42), defBody (top 42), defScope (top 42), [], []⟩,
  ⟨("_law_told", none), "_law_told", "_law_told", defArgs (top 43), defBody (top 43), defScope (top 43), [], []⟩,
  ⟨("_law_by_name", none), "_law_by_name", "_law_by_name", defArgs (top 44), defBody (top 44), defScope (top 44), [], []⟩,
  ⟨("_law_right", none), "_law_right", "_law_right", defArgs (top 45), defBody (top 45), defScope (top 45), [], []⟩,
  ⟨("law", none), "law", "law", defArgs (top 46), defBody (top 46), defScope (top 46), [], []⟩,
  ⟨("InvalidName", some "__init__"), "__init__", "InvalidName.__init__", defArgs (sub 2 0), defBody (sub 2 0), defScope (sub 2 0), [], []⟩,
  ⟨("InvalidNames", some "__init__"), "__init__", "InvalidNames.__init__", defArgs (sub 3 0), defBody (sub 3 0), defScope (sub 3 0), [], []⟩,
  ⟨("InvalidPlaces", some "__init__"), "__init__", "InvalidPlaces.__init__", defArgs (sub 4 0), defBody (sub 4 0), defScope (sub 4 0), [], []⟩,
  ⟨("InvalidPlace", some "__init__"), "__init__", "InvalidPlace.__init__", defArgs (sub 5 0), defBody (sub 5 0), defScope (sub 5 0), [], []⟩,
  ⟨("InvalidFacts", some "__init__"), "__init__", "InvalidFacts.__init__", defArgs (sub 6 0), defBody (sub 6 0), defScope (sub 6 0), [], []⟩,
  ⟨("InvalidSign", some "__init__"), "__init__", "InvalidSign.__init__", defArgs (sub 7 0), defBody (sub 7 0), defScope (sub 7 0), [], []⟩,
  ⟨("InvalidPosition", some "__init__"), "__init__", "InvalidPosition.__init__", defArgs (sub 8 0), defBody (sub 8 0), defScope (sub 8 0), [], []⟩,
  ⟨("InvalidPin", some "__init__"), "__init__", "InvalidPin.__init__", defArgs (sub 9 0), defBody (sub 9 0), defScope (sub 9 0), [], []⟩,
  ⟨("InvalidPlan", some "__init__"), "__init__", "InvalidPlan.__init__", defArgs (sub 10 0), defBody (sub 10 0), defScope (sub 10 0), [], []⟩,
  ⟨("InvalidTimes", some "__init__"), "__init__", "InvalidTimes.__init__", defArgs (sub 11 0), defBody (sub 11 0), defScope (sub 11 0), [], []⟩,
  ⟨("InvalidNumber", some "__init__"), "__init__", "InvalidNumber.__init__", defArgs (sub 12 0), defBody (sub 12 0), defScope (sub 12 0), [], []⟩,
  ⟨("InvalidCrowds", some "__init__"), "__init__", "InvalidCrowds.__init__", defArgs (sub 13 0), defBody (sub 13 0), defScope (sub 13 0), [], []⟩,
  ⟨("InvalidPairs", some "__init__"), "__init__", "InvalidPairs.__init__", defArgs (sub 14 0), defBody (sub 14 0), defScope (sub 14 0), [], []⟩,
  ⟨("InvalidParents", some "__init__"), "__init__", "InvalidParents.__init__", defArgs (sub 15 0), defBody (sub 15 0), defScope (sub 15 0), [], []⟩,
  ⟨("InvalidBranches", some "__init__"), "__init__", "InvalidBranches.__init__", defArgs (sub 16 0), defBody (sub 16 0), defScope (sub 16 0), [], []⟩,
  ⟨("InvalidText", some "__init__"), "__init__", "InvalidText.__init__", defArgs (sub 17 0), defBody (sub 17 0), defScope (sub 17 0), [], []⟩,
  ⟨("InvalidClaim", some "__init__"), "__init__", "InvalidClaim.__init__", defArgs (sub 18 0), defBody (sub 18 0), defScope (sub 18 0), [], []⟩,
  ⟨("InvalidCommand", some "__init__"), "__init__", "InvalidCommand.__init__", defArgs (sub 19 0), defBody (sub 19 0), defScope (sub 19 0), [], []⟩,
  ⟨("UnknownName", some "__init__"), "__init__", "UnknownName.__init__", defArgs (sub 21 0), defBody (sub 21 0), defScope (sub 21 0), [], []⟩,
  ⟨("UnknownEnd", some "__init__"), "__init__", "UnknownEnd.__init__", defArgs (sub 22 0), defBody (sub 22 0), defScope (sub 22 0), [], []⟩,
  ⟨("SameName", some "__init__"), "__init__", "SameName.__init__", defArgs (sub 24 0), defBody (sub 24 0), defScope (sub 24 0), [], []⟩,
  ⟨("CommonName", some "__init__"), "__init__", "CommonName.__init__", defArgs (sub 25 0), defBody (sub 25 0), defScope (sub 25 0), [], []⟩,
  ⟨("OtherNames", some "__init__"), "__init__", "OtherNames.__init__", defArgs (sub 26 0), defBody (sub 26 0), defScope (sub 26 0), [], []⟩,
  ⟨("CommandFailed", some "__init__"), "__init__", "CommandFailed.__init__", defArgs (sub 29 0), defBody (sub 29 0), defScope (sub 29 0), [], []⟩,
  ⟨("TooMany", some "__init__"), "__init__", "TooMany.__init__", defArgs (sub 31 0), defBody (sub 31 0), defScope (sub 31 0), [], []⟩]
def fa : List He.Fa := [.glo "_law_pot", .glo "_law_draw", .glo "_law_pick", .glo "_law_thing", .glo "_law_pins", .glo "_law_which_pin", .glo "_law_rest", .glo "_law_which_rest", .glo "_law_bases", .glo "_law_classes_right", .glo "_law_told", .glo "_law_by_name", .glo "_law_right", .glo "law", .glo "PinsError", .glo "InvalidName", .glo "InvalidNames", .glo "InvalidPlaces", .glo "InvalidPlace", .glo "InvalidFacts", .glo "InvalidSign", .glo "InvalidPosition", .glo "InvalidPin", .glo "InvalidPlan", .glo "InvalidTimes", .glo "InvalidNumber", .glo "InvalidCrowds", .glo "InvalidPairs", .glo "InvalidParents", .glo "InvalidBranches", .glo "InvalidText", .glo "InvalidClaim", .glo "InvalidCommand", .glo "MissingError", .glo "UnknownName", .glo "UnknownEnd", .glo "StateError", .glo "SameName", .glo "CommonName", .glo "OtherNames", .glo "NoLot", .glo "NothingToUndo", .glo "CommandFailed", .glo "LimitError", .glo "TooMany", .free "ArithmeticError", .free "AttributeError", .free "IndexError", .free "KeyError", .free "LookupError", .free "NotImplementedError", .free "OverflowError", .free "RuntimeError", .free "TypeError", .free "ValueError", .free "ZeroDivisionError", .free "abs", .free "all", .free "divmod", .free "enumerate", .free "int", .free "isinstance", .free "len", .free "max", .free "min", .free "range", .free "zip"]
def rows : List Dm.XRow := [⟨"InvalidName", .ve, ["value"], ["InvalidName", "PinsError"]⟩,
  ⟨"InvalidNames", .ve, ["position"], ["InvalidNames", "PinsError"]⟩,
  ⟨"InvalidPlaces", .ve, ["value"], ["InvalidPlaces", "PinsError"]⟩,
  ⟨"InvalidPlace", .ve, ["value"], ["InvalidPlace", "PinsError"]⟩,
  ⟨"InvalidFacts", .ve, ["position"], ["InvalidFacts", "PinsError"]⟩,
  ⟨"InvalidSign", .ve, ["value"], ["InvalidSign", "PinsError"]⟩,
  ⟨"InvalidPosition", .ve, ["value"], ["InvalidPosition", "PinsError"]⟩,
  ⟨"InvalidPin", .ve, ["value"], ["InvalidPin", "PinsError"]⟩,
  ⟨"InvalidPlan", .ve, ["position"], ["InvalidPlan", "PinsError"]⟩,
  ⟨"InvalidTimes", .ve, ["value"], ["InvalidTimes", "PinsError"]⟩,
  ⟨"InvalidNumber", .ve, ["value"], ["InvalidNumber", "PinsError"]⟩,
  ⟨"InvalidCrowds", .ve, ["position"], ["InvalidCrowds", "PinsError"]⟩,
  ⟨"InvalidPairs", .ve, ["position"], ["InvalidPairs", "PinsError"]⟩,
  ⟨"InvalidParents", .ve, ["position"], ["InvalidParents", "PinsError"]⟩,
  ⟨"InvalidBranches", .ve, ["value"], ["InvalidBranches", "PinsError"]⟩,
  ⟨"InvalidText", .ve, ["line"], ["InvalidText", "PinsError"]⟩,
  ⟨"InvalidClaim", .ve, ["value"], ["InvalidClaim", "PinsError"]⟩,
  ⟨"InvalidCommand", .ve, ["value"], ["InvalidCommand", "PinsError"]⟩,
  ⟨"UnknownName", .le, ["value"], ["UnknownName", "MissingError"]⟩,
  ⟨"UnknownEnd", .le, ["value"], ["UnknownEnd", "MissingError"]⟩,
  ⟨"SameName", .re, ["name"], ["SameName", "StateError"]⟩,
  ⟨"CommonName", .re, ["name"], ["CommonName", "StateError"]⟩,
  ⟨"OtherNames", .re, ["one", "other"], ["OtherNames", "StateError"]⟩,
  ⟨"NoLot", .re, [], ["NoLot", "StateError"]⟩,
  ⟨"NothingToUndo", .re, [], ["NothingToUndo", "StateError"]⟩,
  ⟨"CommandFailed", .re, ["position"], ["CommandFailed", "StateError"]⟩,
  ⟨"TooMany", .ae, ["what", "limit"], ["TooMany", "LimitError"]⟩]
def owns : List Str := ["PinsError", "InvalidName", "InvalidNames", "InvalidPlaces", "InvalidPlace", "InvalidFacts", "InvalidSign", "InvalidPosition", "InvalidPin", "InvalidPlan", "InvalidTimes", "InvalidNumber", "InvalidCrowds", "InvalidPairs", "InvalidParents", "InvalidBranches", "InvalidText", "InvalidClaim", "InvalidCommand", "MissingError", "UnknownName", "UnknownEnd", "StateError", "SameName", "CommonName", "OtherNames", "NoLot", "NothingToUndo", "CommandFailed", "LimitError", "TooMany"]
def tys : List String := ["ArithmeticError", "AttributeError", "IndexError", "KeyError", "LookupError", "NotImplementedError", "OverflowError", "RuntimeError", "TypeError", "ValueError", "ZeroDivisionError"]
abbrev hk : PySem.W.Hook := Dm.hookX 4 fa fn (Dm.exAll rows owns tys)
def ob (s : PySem.W.SharedT) : Dm.AlX := Dm.obsX 4 fa fn (Dm.exAll rows owns tys) (HandSHeadRun.getT s)
theorem ob_eq (s : PySem.W.SharedT) : ob s = hk.obs s.abs := Dm.obsX_eq (HandSHeadRun.getT_eq s)
theorem run (w : World) : HandSHeadRun.RunEq R (PySem.W.view R.prog [46]) hk ob 40000 loose w := by
  intro os
  kernel_rfl
end Lw
set_option maxHeartbeats 2000000
namespace Lw
open PySem PySem.Spec PyProof.Rows L2 Dm
abbrev sc_InvalidPosition_init : Scope := defScope (sub 8 0)
theorem S_InvalidPosition_init : FnScope ["self", "value"] ["self", "value"] sc_InvalidPosition_init := ⟨rfl, rfl, rfl, by decide +kernel, rfl, by decide +kernel, by decide +kernel⟩
theorem x_InvalidPosition {P : Program} {w : World} {K : PySem.W.Frag} {mg : Str → Option Value} {bs : Heap} (T : Tx fa fn K mg bs) (TX : exAll rows owns tys K = true) : ExcK P w K mg bs "InvalidPosition" 1 1 [] ["value"] (fun ws _ => ws) := by
  obtain ⟨fd, F⟩ := T.says.def_ 20 rfl
  exact exck_of TX (k := 1) (n := 1) (show rows.find? (fun r => r.c == ("InvalidPosition" : Str)) = some ⟨"InvalidPosition", .ve, ["value"], ["InvalidPosition", "PinsError"]⟩ by kernel_rfl) (by decide) (fun O hf => init1_fnG F S_InvalidPosition_init O (hf "value" (by decide)) (vis_of (by decide +kernel)) (vis_of (by decide +kernel))) (bdg_pos (ps := ["self", "value"]) F fun _ _ _ _ _ _ us hl => match us, hl with | [_, _], _ => rfl) rfl (by decide)
abbrev sc_InvalidSign_init : Scope := defScope (sub 7 0)
theorem S_InvalidSign_init : FnScope ["self", "value"] ["self", "value"] sc_InvalidSign_init := ⟨rfl, rfl, rfl, by decide +kernel, rfl, by decide +kernel, by decide +kernel⟩
theorem x_InvalidSign {P : Program} {w : World} {K : PySem.W.Frag} {mg : Str → Option Value} {bs : Heap} (T : Tx fa fn K mg bs) (TX : exAll rows owns tys K = true) : ExcK P w K mg bs "InvalidSign" 1 1 [] ["value"] (fun ws _ => ws) := by
  obtain ⟨fd, F⟩ := T.says.def_ 19 rfl
  exact exck_of TX (k := 1) (n := 1) (show rows.find? (fun r => r.c == ("InvalidSign" : Str)) = some ⟨"InvalidSign", .ve, ["value"], ["InvalidSign", "PinsError"]⟩ by kernel_rfl) (by decide) (fun O hf => init1_fnG F S_InvalidSign_init O (hf "value" (by decide)) (vis_of (by decide +kernel)) (vis_of (by decide +kernel))) (bdg_pos (ps := ["self", "value"]) F fun _ _ _ _ _ _ us hl => match us, hl with | [_, _], _ => rfl) rfl (by decide)
abbrev sc_InvalidPlace_init : Scope := defScope (sub 5 0)
theorem S_InvalidPlace_init : FnScope ["self", "value"] ["self", "value"] sc_InvalidPlace_init := ⟨rfl, rfl, rfl, by decide +kernel, rfl, by decide +kernel, by decide +kernel⟩
theorem x_InvalidPlace {P : Program} {w : World} {K : PySem.W.Frag} {mg : Str → Option Value} {bs : Heap} (T : Tx fa fn K mg bs) (TX : exAll rows owns tys K = true) : ExcK P w K mg bs "InvalidPlace" 1 1 [] ["value"] (fun ws _ => ws) := by
  obtain ⟨fd, F⟩ := T.says.def_ 17 rfl
  exact exck_of TX (k := 1) (n := 1) (show rows.find? (fun r => r.c == ("InvalidPlace" : Str)) = some ⟨"InvalidPlace", .ve, ["value"], ["InvalidPlace", "PinsError"]⟩ by kernel_rfl) (by decide) (fun O hf => init1_fnG F S_InvalidPlace_init O (hf "value" (by decide)) (vis_of (by decide +kernel)) (vis_of (by decide +kernel))) (bdg_pos (ps := ["self", "value"]) F fun _ _ _ _ _ _ us hl => match us, hl with | [_, _], _ => rfl) rfl (by decide)
abbrev sc_InvalidPlaces_init : Scope := defScope (sub 4 0)
theorem S_InvalidPlaces_init : FnScope ["self", "value"] ["self", "value"] sc_InvalidPlaces_init := ⟨rfl, rfl, rfl, by decide +kernel, rfl, by decide +kernel, by decide +kernel⟩
theorem x_InvalidPlaces {P : Program} {w : World} {K : PySem.W.Frag} {mg : Str → Option Value} {bs : Heap} (T : Tx fa fn K mg bs) (TX : exAll rows owns tys K = true) : ExcK P w K mg bs "InvalidPlaces" 1 1 [] ["value"] (fun ws _ => ws) := by
  obtain ⟨fd, F⟩ := T.says.def_ 16 rfl
  exact exck_of TX (k := 1) (n := 1) (show rows.find? (fun r => r.c == ("InvalidPlaces" : Str)) = some ⟨"InvalidPlaces", .ve, ["value"], ["InvalidPlaces", "PinsError"]⟩ by kernel_rfl) (by decide) (fun O hf => init1_fnG F S_InvalidPlaces_init O (hf "value" (by decide)) (vis_of (by decide +kernel)) (vis_of (by decide +kernel))) (bdg_pos (ps := ["self", "value"]) F fun _ _ _ _ _ _ us hl => match us, hl with | [_, _], _ => rfl) rfl (by decide)
abbrev sc_InvalidName_init : Scope := defScope (sub 2 0)
theorem S_InvalidName_init : FnScope ["self", "value"] ["self", "value"] sc_InvalidName_init := ⟨rfl, rfl, rfl, by decide +kernel, rfl, by decide +kernel, by decide +kernel⟩
theorem x_InvalidName {P : Program} {w : World} {K : PySem.W.Frag} {mg : Str → Option Value} {bs : Heap} (T : Tx fa fn K mg bs) (TX : exAll rows owns tys K = true) : ExcK P w K mg bs "InvalidName" 1 1 [] ["value"] (fun ws _ => ws) := by
  obtain ⟨fd, F⟩ := T.says.def_ 14 rfl
  exact exck_of TX (k := 1) (n := 1) (show rows.find? (fun r => r.c == ("InvalidName" : Str)) = some ⟨"InvalidName", .ve, ["value"], ["InvalidName", "PinsError"]⟩ by kernel_rfl) (by decide) (fun O hf => init1_fnG F S_InvalidName_init O (hf "value" (by decide)) (vis_of (by decide +kernel)) (vis_of (by decide +kernel))) (bdg_pos (ps := ["self", "value"]) F fun _ _ _ _ _ _ us hl => match us, hl with | [_, _], _ => rfl) rfl (by decide)
abbrev sc_InvalidBranches_init : Scope := defScope (sub 16 0)
theorem S_InvalidBranches_init : FnScope ["self", "value"] ["self", "value"] sc_InvalidBranches_init := ⟨rfl, rfl, rfl, by decide +kernel, rfl, by decide +kernel, by decide +kernel⟩
theorem x_InvalidBranches {P : Program} {w : World} {K : PySem.W.Frag} {mg : Str → Option Value} {bs : Heap} (T : Tx fa fn K mg bs) (TX : exAll rows owns tys K = true) : ExcK P w K mg bs "InvalidBranches" 1 1 [] ["value"] (fun ws _ => ws) := by
  obtain ⟨fd, F⟩ := T.says.def_ 28 rfl
  exact exck_of TX (k := 1) (n := 1) (show rows.find? (fun r => r.c == ("InvalidBranches" : Str)) = some ⟨"InvalidBranches", .ve, ["value"], ["InvalidBranches", "PinsError"]⟩ by kernel_rfl) (by decide) (fun O hf => init1_fnG F S_InvalidBranches_init O (hf "value" (by decide)) (vis_of (by decide +kernel)) (vis_of (by decide +kernel))) (bdg_pos (ps := ["self", "value"]) F fun _ _ _ _ _ _ us hl => match us, hl with | [_, _], _ => rfl) rfl (by decide)
abbrev sc_InvalidNumber_init : Scope := defScope (sub 12 0)
theorem S_InvalidNumber_init : FnScope ["self", "value"] ["self", "value"] sc_InvalidNumber_init := ⟨rfl, rfl, rfl, by decide +kernel, rfl, by decide +kernel, by decide +kernel⟩
theorem x_InvalidNumber {P : Program} {w : World} {K : PySem.W.Frag} {mg : Str → Option Value} {bs : Heap} (T : Tx fa fn K mg bs) (TX : exAll rows owns tys K = true) : ExcK P w K mg bs "InvalidNumber" 1 1 [] ["value"] (fun ws _ => ws) := by
  obtain ⟨fd, F⟩ := T.says.def_ 24 rfl
  exact exck_of TX (k := 1) (n := 1) (show rows.find? (fun r => r.c == ("InvalidNumber" : Str)) = some ⟨"InvalidNumber", .ve, ["value"], ["InvalidNumber", "PinsError"]⟩ by kernel_rfl) (by decide) (fun O hf => init1_fnG F S_InvalidNumber_init O (hf "value" (by decide)) (vis_of (by decide +kernel)) (vis_of (by decide +kernel))) (bdg_pos (ps := ["self", "value"]) F fun _ _ _ _ _ _ us hl => match us, hl with | [_, _], _ => rfl) rfl (by decide)
abbrev sc_InvalidTimes_init : Scope := defScope (sub 11 0)
theorem S_InvalidTimes_init : FnScope ["self", "value"] ["self", "value"] sc_InvalidTimes_init := ⟨rfl, rfl, rfl, by decide +kernel, rfl, by decide +kernel, by decide +kernel⟩
theorem x_InvalidTimes {P : Program} {w : World} {K : PySem.W.Frag} {mg : Str → Option Value} {bs : Heap} (T : Tx fa fn K mg bs) (TX : exAll rows owns tys K = true) : ExcK P w K mg bs "InvalidTimes" 1 1 [] ["value"] (fun ws _ => ws) := by
  obtain ⟨fd, F⟩ := T.says.def_ 23 rfl
  exact exck_of TX (k := 1) (n := 1) (show rows.find? (fun r => r.c == ("InvalidTimes" : Str)) = some ⟨"InvalidTimes", .ve, ["value"], ["InvalidTimes", "PinsError"]⟩ by kernel_rfl) (by decide) (fun O hf => init1_fnG F S_InvalidTimes_init O (hf "value" (by decide)) (vis_of (by decide +kernel)) (vis_of (by decide +kernel))) (bdg_pos (ps := ["self", "value"]) F fun _ _ _ _ _ _ us hl => match us, hl with | [_, _], _ => rfl) rfl (by decide)
abbrev sc_InvalidPin_init : Scope := defScope (sub 9 0)
theorem S_InvalidPin_init : FnScope ["self", "value"] ["self", "value"] sc_InvalidPin_init := ⟨rfl, rfl, rfl, by decide +kernel, rfl, by decide +kernel, by decide +kernel⟩
theorem x_InvalidPin {P : Program} {w : World} {K : PySem.W.Frag} {mg : Str → Option Value} {bs : Heap} (T : Tx fa fn K mg bs) (TX : exAll rows owns tys K = true) : ExcK P w K mg bs "InvalidPin" 1 1 [] ["value"] (fun ws _ => ws) := by
  obtain ⟨fd, F⟩ := T.says.def_ 21 rfl
  exact exck_of TX (k := 1) (n := 1) (show rows.find? (fun r => r.c == ("InvalidPin" : Str)) = some ⟨"InvalidPin", .ve, ["value"], ["InvalidPin", "PinsError"]⟩ by kernel_rfl) (by decide) (fun O hf => init1_fnG F S_InvalidPin_init O (hf "value" (by decide)) (vis_of (by decide +kernel)) (vis_of (by decide +kernel))) (bdg_pos (ps := ["self", "value"]) F fun _ _ _ _ _ _ us hl => match us, hl with | [_, _], _ => rfl) rfl (by decide)
abbrev sc_InvalidFacts_init : Scope := defScope (sub 6 0)
theorem S_InvalidFacts_init : FnScope ["self", "position"] ["self", "position"] sc_InvalidFacts_init := ⟨rfl, rfl, rfl, by decide +kernel, rfl, by decide +kernel, by decide +kernel⟩
theorem x_InvalidFacts {P : Program} {w : World} {K : PySem.W.Frag} {mg : Str → Option Value} {bs : Heap} (T : Tx fa fn K mg bs) (TX : exAll rows owns tys K = true) : ExcK P w K mg bs "InvalidFacts" 1 1 [] ["position"] (fun ws _ => ws) := by
  obtain ⟨fd, F⟩ := T.says.def_ 18 rfl
  exact exck_of TX (k := 1) (n := 1) (show rows.find? (fun r => r.c == ("InvalidFacts" : Str)) = some ⟨"InvalidFacts", .ve, ["position"], ["InvalidFacts", "PinsError"]⟩ by kernel_rfl) (by decide) (fun O hf => init1_fnG F S_InvalidFacts_init O (hf "position" (by decide)) (vis_of (by decide +kernel)) (vis_of (by decide +kernel))) (bdg_pos (ps := ["self", "position"]) F fun _ _ _ _ _ _ us hl => match us, hl with | [_, _], _ => rfl) rfl (by decide)
abbrev sc_InvalidNames_init : Scope := defScope (sub 3 0)
theorem S_InvalidNames_init : FnScope ["self", "position"] ["self", "position"] sc_InvalidNames_init := ⟨rfl, rfl, rfl, by decide +kernel, rfl, by decide +kernel, by decide +kernel⟩
theorem x_InvalidNames {P : Program} {w : World} {K : PySem.W.Frag} {mg : Str → Option Value} {bs : Heap} (T : Tx fa fn K mg bs) (TX : exAll rows owns tys K = true) : ExcK P w K mg bs "InvalidNames" 1 1 [] ["position"] (fun ws _ => ws) := by
  obtain ⟨fd, F⟩ := T.says.def_ 15 rfl
  exact exck_of TX (k := 1) (n := 1) (show rows.find? (fun r => r.c == ("InvalidNames" : Str)) = some ⟨"InvalidNames", .ve, ["position"], ["InvalidNames", "PinsError"]⟩ by kernel_rfl) (by decide) (fun O hf => init1_fnG F S_InvalidNames_init O (hf "position" (by decide)) (vis_of (by decide +kernel)) (vis_of (by decide +kernel))) (bdg_pos (ps := ["self", "position"]) F fun _ _ _ _ _ _ us hl => match us, hl with | [_, _], _ => rfl) rfl (by decide)
abbrev sc_InvalidCommand_init : Scope := defScope (sub 19 0)
theorem S_InvalidCommand_init : FnScope ["self", "value"] ["self", "value"] sc_InvalidCommand_init := ⟨rfl, rfl, rfl, by decide +kernel, rfl, by decide +kernel, by decide +kernel⟩
theorem x_InvalidCommand {P : Program} {w : World} {K : PySem.W.Frag} {mg : Str → Option Value} {bs : Heap} (T : Tx fa fn K mg bs) (TX : exAll rows owns tys K = true) : ExcK P w K mg bs "InvalidCommand" 1 1 [] ["value"] (fun ws _ => ws) := by
  obtain ⟨fd, F⟩ := T.says.def_ 31 rfl
  exact exck_of TX (k := 1) (n := 1) (show rows.find? (fun r => r.c == ("InvalidCommand" : Str)) = some ⟨"InvalidCommand", .ve, ["value"], ["InvalidCommand", "PinsError"]⟩ by kernel_rfl) (by decide) (fun O hf => init1_fnG F S_InvalidCommand_init O (hf "value" (by decide)) (vis_of (by decide +kernel)) (vis_of (by decide +kernel))) (bdg_pos (ps := ["self", "value"]) F fun _ _ _ _ _ _ us hl => match us, hl with | [_, _], _ => rfl) rfl (by decide)
abbrev sc_InvalidClaim_init : Scope := defScope (sub 18 0)
theorem S_InvalidClaim_init : FnScope ["self", "value"] ["self", "value"] sc_InvalidClaim_init := ⟨rfl, rfl, rfl, by decide +kernel, rfl, by decide +kernel, by decide +kernel⟩
theorem x_InvalidClaim {P : Program} {w : World} {K : PySem.W.Frag} {mg : Str → Option Value} {bs : Heap} (T : Tx fa fn K mg bs) (TX : exAll rows owns tys K = true) : ExcK P w K mg bs "InvalidClaim" 1 1 [] ["value"] (fun ws _ => ws) := by
  obtain ⟨fd, F⟩ := T.says.def_ 30 rfl
  exact exck_of TX (k := 1) (n := 1) (show rows.find? (fun r => r.c == ("InvalidClaim" : Str)) = some ⟨"InvalidClaim", .ve, ["value"], ["InvalidClaim", "PinsError"]⟩ by kernel_rfl) (by decide) (fun O hf => init1_fnG F S_InvalidClaim_init O (hf "value" (by decide)) (vis_of (by decide +kernel)) (vis_of (by decide +kernel))) (bdg_pos (ps := ["self", "value"]) F fun _ _ _ _ _ _ us hl => match us, hl with | [_, _], _ => rfl) rfl (by decide)
abbrev sc_InvalidText_init : Scope := defScope (sub 17 0)
theorem S_InvalidText_init : FnScope ["self", "line"] ["self", "line"] sc_InvalidText_init := ⟨rfl, rfl, rfl, by decide +kernel, rfl, by decide +kernel, by decide +kernel⟩
theorem x_InvalidText {P : Program} {w : World} {K : PySem.W.Frag} {mg : Str → Option Value} {bs : Heap} (T : Tx fa fn K mg bs) (TX : exAll rows owns tys K = true) : ExcK P w K mg bs "InvalidText" 1 1 [] ["line"] (fun ws _ => ws) := by
  obtain ⟨fd, F⟩ := T.says.def_ 29 rfl
  exact exck_of TX (k := 1) (n := 1) (show rows.find? (fun r => r.c == ("InvalidText" : Str)) = some ⟨"InvalidText", .ve, ["line"], ["InvalidText", "PinsError"]⟩ by kernel_rfl) (by decide) (fun O hf => init1_fnG F S_InvalidText_init O (hf "line" (by decide)) (vis_of (by decide +kernel)) (vis_of (by decide +kernel))) (bdg_pos (ps := ["self", "line"]) F fun _ _ _ _ _ _ us hl => match us, hl with | [_, _], _ => rfl) rfl (by decide)
abbrev sc_InvalidParents_init : Scope := defScope (sub 15 0)
theorem S_InvalidParents_init : FnScope ["self", "position"] ["self", "position"] sc_InvalidParents_init := ⟨rfl, rfl, rfl, by decide +kernel, rfl, by decide +kernel, by decide +kernel⟩
theorem x_InvalidParents {P : Program} {w : World} {K : PySem.W.Frag} {mg : Str → Option Value} {bs : Heap} (T : Tx fa fn K mg bs) (TX : exAll rows owns tys K = true) : ExcK P w K mg bs "InvalidParents" 1 1 [] ["position"] (fun ws _ => ws) := by
  obtain ⟨fd, F⟩ := T.says.def_ 27 rfl
  exact exck_of TX (k := 1) (n := 1) (show rows.find? (fun r => r.c == ("InvalidParents" : Str)) = some ⟨"InvalidParents", .ve, ["position"], ["InvalidParents", "PinsError"]⟩ by kernel_rfl) (by decide) (fun O hf => init1_fnG F S_InvalidParents_init O (hf "position" (by decide)) (vis_of (by decide +kernel)) (vis_of (by decide +kernel))) (bdg_pos (ps := ["self", "position"]) F fun _ _ _ _ _ _ us hl => match us, hl with | [_, _], _ => rfl) rfl (by decide)
abbrev sc_InvalidPairs_init : Scope := defScope (sub 14 0)
theorem S_InvalidPairs_init : FnScope ["self", "position"] ["self", "position"] sc_InvalidPairs_init := ⟨rfl, rfl, rfl, by decide +kernel, rfl, by decide +kernel, by decide +kernel⟩
theorem x_InvalidPairs {P : Program} {w : World} {K : PySem.W.Frag} {mg : Str → Option Value} {bs : Heap} (T : Tx fa fn K mg bs) (TX : exAll rows owns tys K = true) : ExcK P w K mg bs "InvalidPairs" 1 1 [] ["position"] (fun ws _ => ws) := by
  obtain ⟨fd, F⟩ := T.says.def_ 26 rfl
  exact exck_of TX (k := 1) (n := 1) (show rows.find? (fun r => r.c == ("InvalidPairs" : Str)) = some ⟨"InvalidPairs", .ve, ["position"], ["InvalidPairs", "PinsError"]⟩ by kernel_rfl) (by decide) (fun O hf => init1_fnG F S_InvalidPairs_init O (hf "position" (by decide)) (vis_of (by decide +kernel)) (vis_of (by decide +kernel))) (bdg_pos (ps := ["self", "position"]) F fun _ _ _ _ _ _ us hl => match us, hl with | [_, _], _ => rfl) rfl (by decide)
abbrev sc_InvalidCrowds_init : Scope := defScope (sub 13 0)
theorem S_InvalidCrowds_init : FnScope ["self", "position"] ["self", "position"] sc_InvalidCrowds_init := ⟨rfl, rfl, rfl, by decide +kernel, rfl, by decide +kernel, by decide +kernel⟩
theorem x_InvalidCrowds {P : Program} {w : World} {K : PySem.W.Frag} {mg : Str → Option Value} {bs : Heap} (T : Tx fa fn K mg bs) (TX : exAll rows owns tys K = true) : ExcK P w K mg bs "InvalidCrowds" 1 1 [] ["position"] (fun ws _ => ws) := by
  obtain ⟨fd, F⟩ := T.says.def_ 25 rfl
  exact exck_of TX (k := 1) (n := 1) (show rows.find? (fun r => r.c == ("InvalidCrowds" : Str)) = some ⟨"InvalidCrowds", .ve, ["position"], ["InvalidCrowds", "PinsError"]⟩ by kernel_rfl) (by decide) (fun O hf => init1_fnG F S_InvalidCrowds_init O (hf "position" (by decide)) (vis_of (by decide +kernel)) (vis_of (by decide +kernel))) (bdg_pos (ps := ["self", "position"]) F fun _ _ _ _ _ _ us hl => match us, hl with | [_, _], _ => rfl) rfl (by decide)
abbrev sc_InvalidPlan_init : Scope := defScope (sub 10 0)
theorem S_InvalidPlan_init : FnScope ["self", "position"] ["self", "position"] sc_InvalidPlan_init := ⟨rfl, rfl, rfl, by decide +kernel, rfl, by decide +kernel, by decide +kernel⟩
theorem x_InvalidPlan {P : Program} {w : World} {K : PySem.W.Frag} {mg : Str → Option Value} {bs : Heap} (T : Tx fa fn K mg bs) (TX : exAll rows owns tys K = true) : ExcK P w K mg bs "InvalidPlan" 1 1 [] ["position"] (fun ws _ => ws) := by
  obtain ⟨fd, F⟩ := T.says.def_ 22 rfl
  exact exck_of TX (k := 1) (n := 1) (show rows.find? (fun r => r.c == ("InvalidPlan" : Str)) = some ⟨"InvalidPlan", .ve, ["position"], ["InvalidPlan", "PinsError"]⟩ by kernel_rfl) (by decide) (fun O hf => init1_fnG F S_InvalidPlan_init O (hf "position" (by decide)) (vis_of (by decide +kernel)) (vis_of (by decide +kernel))) (bdg_pos (ps := ["self", "position"]) F fun _ _ _ _ _ _ us hl => match us, hl with | [_, _], _ => rfl) rfl (by decide)
abbrev sc_OtherNames_init : Scope := defScope (sub 26 0)
theorem S_OtherNames_init : FnScope ["self", "one", "other"] ["self", "one", "other"] sc_OtherNames_init := ⟨rfl, rfl, rfl, by decide +kernel, rfl, by decide +kernel, by decide +kernel⟩
theorem x_OtherNames {P : Program} {w : World} {K : PySem.W.Frag} {mg : Str → Option Value} {bs : Heap} (T : Tx fa fn K mg bs) (TX : exAll rows owns tys K = true) : ExcK P w K mg bs "OtherNames" 1 2 [] ["one", "other"] (fun ws _ => ws) := by
  obtain ⟨fd, F⟩ := T.says.def_ 36 rfl
  exact exck_of TX (k := 1) (n := 2) (show rows.find? (fun r => r.c == ("OtherNames" : Str)) = some ⟨"OtherNames", .re, ["one", "other"], ["OtherNames", "StateError"]⟩ by kernel_rfl) (by decide) (fun O hf => init2_fnG F S_OtherNames_init O (hf "one" (by decide)) (hf "other" (by decide)) (vis_of (by decide +kernel)) (vis_of (by decide +kernel)) (vis_of (by decide +kernel))) (bdg_pos (ps := ["self", "one", "other"]) F fun _ _ _ _ _ _ us hl => match us, hl with | [_, _, _], _ => rfl) rfl (by decide)
abbrev sc_CommonName_init : Scope := defScope (sub 25 0)
theorem S_CommonName_init : FnScope ["self", "name"] ["self", "name"] sc_CommonName_init := ⟨rfl, rfl, rfl, by decide +kernel, rfl, by decide +kernel, by decide +kernel⟩
theorem x_CommonName {P : Program} {w : World} {K : PySem.W.Frag} {mg : Str → Option Value} {bs : Heap} (T : Tx fa fn K mg bs) (TX : exAll rows owns tys K = true) : ExcK P w K mg bs "CommonName" 1 1 [] ["name"] (fun ws _ => ws) := by
  obtain ⟨fd, F⟩ := T.says.def_ 35 rfl
  exact exck_of TX (k := 1) (n := 1) (show rows.find? (fun r => r.c == ("CommonName" : Str)) = some ⟨"CommonName", .re, ["name"], ["CommonName", "StateError"]⟩ by kernel_rfl) (by decide) (fun O hf => init1_fnG F S_CommonName_init O (hf "name" (by decide)) (vis_of (by decide +kernel)) (vis_of (by decide +kernel))) (bdg_pos (ps := ["self", "name"]) F fun _ _ _ _ _ _ us hl => match us, hl with | [_, _], _ => rfl) rfl (by decide)
abbrev sc_SameName_init : Scope := defScope (sub 24 0)
theorem S_SameName_init : FnScope ["self", "name"] ["self", "name"] sc_SameName_init := ⟨rfl, rfl, rfl, by decide +kernel, rfl, by decide +kernel, by decide +kernel⟩
theorem x_SameName {P : Program} {w : World} {K : PySem.W.Frag} {mg : Str → Option Value} {bs : Heap} (T : Tx fa fn K mg bs) (TX : exAll rows owns tys K = true) : ExcK P w K mg bs "SameName" 1 1 [] ["name"] (fun ws _ => ws) := by
  obtain ⟨fd, F⟩ := T.says.def_ 34 rfl
  exact exck_of TX (k := 1) (n := 1) (show rows.find? (fun r => r.c == ("SameName" : Str)) = some ⟨"SameName", .re, ["name"], ["SameName", "StateError"]⟩ by kernel_rfl) (by decide) (fun O hf => init1_fnG F S_SameName_init O (hf "name" (by decide)) (vis_of (by decide +kernel)) (vis_of (by decide +kernel))) (bdg_pos (ps := ["self", "name"]) F fun _ _ _ _ _ _ us hl => match us, hl with | [_, _], _ => rfl) rfl (by decide)
abbrev sc_UnknownEnd_init : Scope := defScope (sub 22 0)
theorem S_UnknownEnd_init : FnScope ["self", "value"] ["self", "value"] sc_UnknownEnd_init := ⟨rfl, rfl, rfl, by decide +kernel, rfl, by decide +kernel, by decide +kernel⟩
theorem x_UnknownEnd {P : Program} {w : World} {K : PySem.W.Frag} {mg : Str → Option Value} {bs : Heap} (T : Tx fa fn K mg bs) (TX : exAll rows owns tys K = true) : ExcK P w K mg bs "UnknownEnd" 1 1 [] ["value"] (fun ws _ => ws) := by
  obtain ⟨fd, F⟩ := T.says.def_ 33 rfl
  exact exck_of TX (k := 1) (n := 1) (show rows.find? (fun r => r.c == ("UnknownEnd" : Str)) = some ⟨"UnknownEnd", .le, ["value"], ["UnknownEnd", "MissingError"]⟩ by kernel_rfl) (by decide) (fun O hf => init1_fnG F S_UnknownEnd_init O (hf "value" (by decide)) (vis_of (by decide +kernel)) (vis_of (by decide +kernel))) (bdg_pos (ps := ["self", "value"]) F fun _ _ _ _ _ _ us hl => match us, hl with | [_, _], _ => rfl) rfl (by decide)
abbrev sc_UnknownName_init : Scope := defScope (sub 21 0)
theorem S_UnknownName_init : FnScope ["self", "value"] ["self", "value"] sc_UnknownName_init := ⟨rfl, rfl, rfl, by decide +kernel, rfl, by decide +kernel, by decide +kernel⟩
theorem x_UnknownName {P : Program} {w : World} {K : PySem.W.Frag} {mg : Str → Option Value} {bs : Heap} (T : Tx fa fn K mg bs) (TX : exAll rows owns tys K = true) : ExcK P w K mg bs "UnknownName" 1 1 [] ["value"] (fun ws _ => ws) := by
  obtain ⟨fd, F⟩ := T.says.def_ 32 rfl
  exact exck_of TX (k := 1) (n := 1) (show rows.find? (fun r => r.c == ("UnknownName" : Str)) = some ⟨"UnknownName", .le, ["value"], ["UnknownName", "MissingError"]⟩ by kernel_rfl) (by decide) (fun O hf => init1_fnG F S_UnknownName_init O (hf "value" (by decide)) (vis_of (by decide +kernel)) (vis_of (by decide +kernel))) (bdg_pos (ps := ["self", "value"]) F fun _ _ _ _ _ _ us hl => match us, hl with | [_, _], _ => rfl) rfl (by decide)
abbrev sc_TooMany_init : Scope := defScope (sub 31 0)
theorem S_TooMany_init : FnScope ["self", "what", "limit"] ["self", "what", "limit"] sc_TooMany_init := ⟨rfl, rfl, rfl, by decide +kernel, rfl, by decide +kernel, by decide +kernel⟩
theorem x_TooMany {P : Program} {w : World} {K : PySem.W.Frag} {mg : Str → Option Value} {bs : Heap} (T : Tx fa fn K mg bs) (TX : exAll rows owns tys K = true) : ExcK P w K mg bs "TooMany" 1 2 [] ["what", "limit"] (fun ws _ => ws) := by
  obtain ⟨fd, F⟩ := T.says.def_ 38 rfl
  exact exck_of TX (k := 1) (n := 2) (show rows.find? (fun r => r.c == ("TooMany" : Str)) = some ⟨"TooMany", .ae, ["what", "limit"], ["TooMany", "LimitError"]⟩ by kernel_rfl) (by decide) (fun O hf => init2_fnG F S_TooMany_init O (hf "what" (by decide)) (hf "limit" (by decide)) (vis_of (by decide +kernel)) (vis_of (by decide +kernel)) (vis_of (by decide +kernel))) (bdg_pos (ps := ["self", "what", "limit"]) F fun _ _ _ _ _ _ us hl => match us, hl with | [_, _, _], _ => rfl) rfl (by decide)
abbrev sc_CommandFailed_init : Scope := defScope (sub 29 0)
theorem S_CommandFailed_init : FnScope ["self", "position"] ["self", "position"] sc_CommandFailed_init := ⟨rfl, rfl, rfl, by decide +kernel, rfl, by decide +kernel, by decide +kernel⟩
theorem x_CommandFailed {P : Program} {w : World} {K : PySem.W.Frag} {mg : Str → Option Value} {bs : Heap} (T : Tx fa fn K mg bs) (TX : exAll rows owns tys K = true) : ExcK P w K mg bs "CommandFailed" 1 1 [] ["position"] (fun ws _ => ws) := by
  obtain ⟨fd, F⟩ := T.says.def_ 37 rfl
  exact exck_of TX (k := 1) (n := 1) (show rows.find? (fun r => r.c == ("CommandFailed" : Str)) = some ⟨"CommandFailed", .re, ["position"], ["CommandFailed", "StateError"]⟩ by kernel_rfl) (by decide) (fun O hf => init1_fnG F S_CommandFailed_init O (hf "position" (by decide)) (vis_of (by decide +kernel)) (vis_of (by decide +kernel))) (bdg_pos (ps := ["self", "position"]) F fun _ _ _ _ _ _ us hl => match us, hl with | [_, _], _ => rfl) rfl (by decide)
theorem x_InvalidSign_value {P : Program} {w : World} {K : PySem.W.Frag} {mg : Str → Option Value} {bs : Heap} (T : Tx fa fn K mg bs) (TX : exAll rows owns tys K = true) : ExcK P w K mg bs "InvalidSign" 1 0 ["value"] ["value"] (fun ws us => byIx [0, 1] (ws ++ us)) := by
  obtain ⟨fd, F⟩ := T.says.def_ 19 rfl
  exact exck_of TX (k := 1) (n := 0) (show rows.find? (fun r => r.c == ("InvalidSign" : Str)) = some ⟨"InvalidSign", .ve, ["value"], ["InvalidSign", "PinsError"]⟩ by kernel_rfl) (by decide) (fun O hf => init1_fnG F S_InvalidSign_init O (hf "value" (by decide)) (vis_of (by decide +kernel)) (vis_of (by decide +kernel))) (bdg_kw (ps := ["self", "value"]) F 1 ["value"] [0, 1] (fun _ _ _ _ _ _ us ws h1 h2 => match us, ws, h1, h2 with | [_], [_], _, _ => rfl) (fun us ws h1 h2 => match us, ws, h1, h2 with | [_], [_], _, _ => rfl)) rfl (by decide)
theorem x_InvalidPlace_value {P : Program} {w : World} {K : PySem.W.Frag} {mg : Str → Option Value} {bs : Heap} (T : Tx fa fn K mg bs) (TX : exAll rows owns tys K = true) : ExcK P w K mg bs "InvalidPlace" 1 0 ["value"] ["value"] (fun ws us => byIx [0, 1] (ws ++ us)) := by
  obtain ⟨fd, F⟩ := T.says.def_ 17 rfl
  exact exck_of TX (k := 1) (n := 0) (show rows.find? (fun r => r.c == ("InvalidPlace" : Str)) = some ⟨"InvalidPlace", .ve, ["value"], ["InvalidPlace", "PinsError"]⟩ by kernel_rfl) (by decide) (fun O hf => init1_fnG F S_InvalidPlace_init O (hf "value" (by decide)) (vis_of (by decide +kernel)) (vis_of (by decide +kernel))) (bdg_kw (ps := ["self", "value"]) F 1 ["value"] [0, 1] (fun _ _ _ _ _ _ us ws h1 h2 => match us, ws, h1, h2 with | [_], [_], _, _ => rfl) (fun us ws h1 h2 => match us, ws, h1, h2 with | [_], [_], _, _ => rfl)) rfl (by decide)
theorem x_InvalidPlaces_value {P : Program} {w : World} {K : PySem.W.Frag} {mg : Str → Option Value} {bs : Heap} (T : Tx fa fn K mg bs) (TX : exAll rows owns tys K = true) : ExcK P w K mg bs "InvalidPlaces" 1 0 ["value"] ["value"] (fun ws us => byIx [0, 1] (ws ++ us)) := by
  obtain ⟨fd, F⟩ := T.says.def_ 16 rfl
  exact exck_of TX (k := 1) (n := 0) (show rows.find? (fun r => r.c == ("InvalidPlaces" : Str)) = some ⟨"InvalidPlaces", .ve, ["value"], ["InvalidPlaces", "PinsError"]⟩ by kernel_rfl) (by decide) (fun O hf => init1_fnG F S_InvalidPlaces_init O (hf "value" (by decide)) (vis_of (by decide +kernel)) (vis_of (by decide +kernel))) (bdg_kw (ps := ["self", "value"]) F 1 ["value"] [0, 1] (fun _ _ _ _ _ _ us ws h1 h2 => match us, ws, h1, h2 with | [_], [_], _, _ => rfl) (fun us ws h1 h2 => match us, ws, h1, h2 with | [_], [_], _, _ => rfl)) rfl (by decide)
theorem x_InvalidName_value {P : Program} {w : World} {K : PySem.W.Frag} {mg : Str → Option Value} {bs : Heap} (T : Tx fa fn K mg bs) (TX : exAll rows owns tys K = true) : ExcK P w K mg bs "InvalidName" 1 0 ["value"] ["value"] (fun ws us => byIx [0, 1] (ws ++ us)) := by
  obtain ⟨fd, F⟩ := T.says.def_ 14 rfl
  exact exck_of TX (k := 1) (n := 0) (show rows.find? (fun r => r.c == ("InvalidName" : Str)) = some ⟨"InvalidName", .ve, ["value"], ["InvalidName", "PinsError"]⟩ by kernel_rfl) (by decide) (fun O hf => init1_fnG F S_InvalidName_init O (hf "value" (by decide)) (vis_of (by decide +kernel)) (vis_of (by decide +kernel))) (bdg_kw (ps := ["self", "value"]) F 1 ["value"] [0, 1] (fun _ _ _ _ _ _ us ws h1 h2 => match us, ws, h1, h2 with | [_], [_], _, _ => rfl) (fun us ws h1 h2 => match us, ws, h1, h2 with | [_], [_], _, _ => rfl)) rfl (by decide)
theorem x_InvalidTimes_value {P : Program} {w : World} {K : PySem.W.Frag} {mg : Str → Option Value} {bs : Heap} (T : Tx fa fn K mg bs) (TX : exAll rows owns tys K = true) : ExcK P w K mg bs "InvalidTimes" 1 0 ["value"] ["value"] (fun ws us => byIx [0, 1] (ws ++ us)) := by
  obtain ⟨fd, F⟩ := T.says.def_ 23 rfl
  exact exck_of TX (k := 1) (n := 0) (show rows.find? (fun r => r.c == ("InvalidTimes" : Str)) = some ⟨"InvalidTimes", .ve, ["value"], ["InvalidTimes", "PinsError"]⟩ by kernel_rfl) (by decide) (fun O hf => init1_fnG F S_InvalidTimes_init O (hf "value" (by decide)) (vis_of (by decide +kernel)) (vis_of (by decide +kernel))) (bdg_kw (ps := ["self", "value"]) F 1 ["value"] [0, 1] (fun _ _ _ _ _ _ us ws h1 h2 => match us, ws, h1, h2 with | [_], [_], _, _ => rfl) (fun us ws h1 h2 => match us, ws, h1, h2 with | [_], [_], _, _ => rfl)) rfl (by decide)
theorem x_InvalidPin_value {P : Program} {w : World} {K : PySem.W.Frag} {mg : Str → Option Value} {bs : Heap} (T : Tx fa fn K mg bs) (TX : exAll rows owns tys K = true) : ExcK P w K mg bs "InvalidPin" 1 0 ["value"] ["value"] (fun ws us => byIx [0, 1] (ws ++ us)) := by
  obtain ⟨fd, F⟩ := T.says.def_ 21 rfl
  exact exck_of TX (k := 1) (n := 0) (show rows.find? (fun r => r.c == ("InvalidPin" : Str)) = some ⟨"InvalidPin", .ve, ["value"], ["InvalidPin", "PinsError"]⟩ by kernel_rfl) (by decide) (fun O hf => init1_fnG F S_InvalidPin_init O (hf "value" (by decide)) (vis_of (by decide +kernel)) (vis_of (by decide +kernel))) (bdg_kw (ps := ["self", "value"]) F 1 ["value"] [0, 1] (fun _ _ _ _ _ _ us ws h1 h2 => match us, ws, h1, h2 with | [_], [_], _, _ => rfl) (fun us ws h1 h2 => match us, ws, h1, h2 with | [_], [_], _, _ => rfl)) rfl (by decide)
theorem x_InvalidPosition_value {P : Program} {w : World} {K : PySem.W.Frag} {mg : Str → Option Value} {bs : Heap} (T : Tx fa fn K mg bs) (TX : exAll rows owns tys K = true) : ExcK P w K mg bs "InvalidPosition" 1 0 ["value"] ["value"] (fun ws us => byIx [0, 1] (ws ++ us)) := by
  obtain ⟨fd, F⟩ := T.says.def_ 20 rfl
  exact exck_of TX (k := 1) (n := 0) (show rows.find? (fun r => r.c == ("InvalidPosition" : Str)) = some ⟨"InvalidPosition", .ve, ["value"], ["InvalidPosition", "PinsError"]⟩ by kernel_rfl) (by decide) (fun O hf => init1_fnG F S_InvalidPosition_init O (hf "value" (by decide)) (vis_of (by decide +kernel)) (vis_of (by decide +kernel))) (bdg_kw (ps := ["self", "value"]) F 1 ["value"] [0, 1] (fun _ _ _ _ _ _ us ws h1 h2 => match us, ws, h1, h2 with | [_], [_], _, _ => rfl) (fun us ws h1 h2 => match us, ws, h1, h2 with | [_], [_], _, _ => rfl)) rfl (by decide)
theorem x_InvalidClaim_value {P : Program} {w : World} {K : PySem.W.Frag} {mg : Str → Option Value} {bs : Heap} (T : Tx fa fn K mg bs) (TX : exAll rows owns tys K = true) : ExcK P w K mg bs "InvalidClaim" 1 0 ["value"] ["value"] (fun ws us => byIx [0, 1] (ws ++ us)) := by
  obtain ⟨fd, F⟩ := T.says.def_ 30 rfl
  exact exck_of TX (k := 1) (n := 0) (show rows.find? (fun r => r.c == ("InvalidClaim" : Str)) = some ⟨"InvalidClaim", .ve, ["value"], ["InvalidClaim", "PinsError"]⟩ by kernel_rfl) (by decide) (fun O hf => init1_fnG F S_InvalidClaim_init O (hf "value" (by decide)) (vis_of (by decide +kernel)) (vis_of (by decide +kernel))) (bdg_kw (ps := ["self", "value"]) F 1 ["value"] [0, 1] (fun _ _ _ _ _ _ us ws h1 h2 => match us, ws, h1, h2 with | [_], [_], _, _ => rfl) (fun us ws h1 h2 => match us, ws, h1, h2 with | [_], [_], _, _ => rfl)) rfl (by decide)
theorem x_InvalidBranches_value {P : Program} {w : World} {K : PySem.W.Frag} {mg : Str → Option Value} {bs : Heap} (T : Tx fa fn K mg bs) (TX : exAll rows owns tys K = true) : ExcK P w K mg bs "InvalidBranches" 1 0 ["value"] ["value"] (fun ws us => byIx [0, 1] (ws ++ us)) := by
  obtain ⟨fd, F⟩ := T.says.def_ 28 rfl
  exact exck_of TX (k := 1) (n := 0) (show rows.find? (fun r => r.c == ("InvalidBranches" : Str)) = some ⟨"InvalidBranches", .ve, ["value"], ["InvalidBranches", "PinsError"]⟩ by kernel_rfl) (by decide) (fun O hf => init1_fnG F S_InvalidBranches_init O (hf "value" (by decide)) (vis_of (by decide +kernel)) (vis_of (by decide +kernel))) (bdg_kw (ps := ["self", "value"]) F 1 ["value"] [0, 1] (fun _ _ _ _ _ _ us ws h1 h2 => match us, ws, h1, h2 with | [_], [_], _, _ => rfl) (fun us ws h1 h2 => match us, ws, h1, h2 with | [_], [_], _, _ => rfl)) rfl (by decide)
theorem x_InvalidNumber_value {P : Program} {w : World} {K : PySem.W.Frag} {mg : Str → Option Value} {bs : Heap} (T : Tx fa fn K mg bs) (TX : exAll rows owns tys K = true) : ExcK P w K mg bs "InvalidNumber" 1 0 ["value"] ["value"] (fun ws us => byIx [0, 1] (ws ++ us)) := by
  obtain ⟨fd, F⟩ := T.says.def_ 24 rfl
  exact exck_of TX (k := 1) (n := 0) (show rows.find? (fun r => r.c == ("InvalidNumber" : Str)) = some ⟨"InvalidNumber", .ve, ["value"], ["InvalidNumber", "PinsError"]⟩ by kernel_rfl) (by decide) (fun O hf => init1_fnG F S_InvalidNumber_init O (hf "value" (by decide)) (vis_of (by decide +kernel)) (vis_of (by decide +kernel))) (bdg_kw (ps := ["self", "value"]) F 1 ["value"] [0, 1] (fun _ _ _ _ _ _ us ws h1 h2 => match us, ws, h1, h2 with | [_], [_], _, _ => rfl) (fun us ws h1 h2 => match us, ws, h1, h2 with | [_], [_], _, _ => rfl)) rfl (by decide)
theorem x_InvalidFacts_position {P : Program} {w : World} {K : PySem.W.Frag} {mg : Str → Option Value} {bs : Heap} (T : Tx fa fn K mg bs) (TX : exAll rows owns tys K = true) : ExcK P w K mg bs "InvalidFacts" 1 0 ["position"] ["position"] (fun ws us => byIx [0, 1] (ws ++ us)) := by
  obtain ⟨fd, F⟩ := T.says.def_ 18 rfl
  exact exck_of TX (k := 1) (n := 0) (show rows.find? (fun r => r.c == ("InvalidFacts" : Str)) = some ⟨"InvalidFacts", .ve, ["position"], ["InvalidFacts", "PinsError"]⟩ by kernel_rfl) (by decide) (fun O hf => init1_fnG F S_InvalidFacts_init O (hf "position" (by decide)) (vis_of (by decide +kernel)) (vis_of (by decide +kernel))) (bdg_kw (ps := ["self", "position"]) F 1 ["position"] [0, 1] (fun _ _ _ _ _ _ us ws h1 h2 => match us, ws, h1, h2 with | [_], [_], _, _ => rfl) (fun us ws h1 h2 => match us, ws, h1, h2 with | [_], [_], _, _ => rfl)) rfl (by decide)
theorem x_InvalidNames_position {P : Program} {w : World} {K : PySem.W.Frag} {mg : Str → Option Value} {bs : Heap} (T : Tx fa fn K mg bs) (TX : exAll rows owns tys K = true) : ExcK P w K mg bs "InvalidNames" 1 0 ["position"] ["position"] (fun ws us => byIx [0, 1] (ws ++ us)) := by
  obtain ⟨fd, F⟩ := T.says.def_ 15 rfl
  exact exck_of TX (k := 1) (n := 0) (show rows.find? (fun r => r.c == ("InvalidNames" : Str)) = some ⟨"InvalidNames", .ve, ["position"], ["InvalidNames", "PinsError"]⟩ by kernel_rfl) (by decide) (fun O hf => init1_fnG F S_InvalidNames_init O (hf "position" (by decide)) (vis_of (by decide +kernel)) (vis_of (by decide +kernel))) (bdg_kw (ps := ["self", "position"]) F 1 ["position"] [0, 1] (fun _ _ _ _ _ _ us ws h1 h2 => match us, ws, h1, h2 with | [_], [_], _, _ => rfl) (fun us ws h1 h2 => match us, ws, h1, h2 with | [_], [_], _, _ => rfl)) rfl (by decide)
theorem x_InvalidCommand_value {P : Program} {w : World} {K : PySem.W.Frag} {mg : Str → Option Value} {bs : Heap} (T : Tx fa fn K mg bs) (TX : exAll rows owns tys K = true) : ExcK P w K mg bs "InvalidCommand" 1 0 ["value"] ["value"] (fun ws us => byIx [0, 1] (ws ++ us)) := by
  obtain ⟨fd, F⟩ := T.says.def_ 31 rfl
  exact exck_of TX (k := 1) (n := 0) (show rows.find? (fun r => r.c == ("InvalidCommand" : Str)) = some ⟨"InvalidCommand", .ve, ["value"], ["InvalidCommand", "PinsError"]⟩ by kernel_rfl) (by decide) (fun O hf => init1_fnG F S_InvalidCommand_init O (hf "value" (by decide)) (vis_of (by decide +kernel)) (vis_of (by decide +kernel))) (bdg_kw (ps := ["self", "value"]) F 1 ["value"] [0, 1] (fun _ _ _ _ _ _ us ws h1 h2 => match us, ws, h1, h2 with | [_], [_], _, _ => rfl) (fun us ws h1 h2 => match us, ws, h1, h2 with | [_], [_], _, _ => rfl)) rfl (by decide)
theorem x_InvalidPairs_position {P : Program} {w : World} {K : PySem.W.Frag} {mg : Str → Option Value} {bs : Heap} (T : Tx fa fn K mg bs) (TX : exAll rows owns tys K = true) : ExcK P w K mg bs "InvalidPairs" 1 0 ["position"] ["position"] (fun ws us => byIx [0, 1] (ws ++ us)) := by
  obtain ⟨fd, F⟩ := T.says.def_ 26 rfl
  exact exck_of TX (k := 1) (n := 0) (show rows.find? (fun r => r.c == ("InvalidPairs" : Str)) = some ⟨"InvalidPairs", .ve, ["position"], ["InvalidPairs", "PinsError"]⟩ by kernel_rfl) (by decide) (fun O hf => init1_fnG F S_InvalidPairs_init O (hf "position" (by decide)) (vis_of (by decide +kernel)) (vis_of (by decide +kernel))) (bdg_kw (ps := ["self", "position"]) F 1 ["position"] [0, 1] (fun _ _ _ _ _ _ us ws h1 h2 => match us, ws, h1, h2 with | [_], [_], _, _ => rfl) (fun us ws h1 h2 => match us, ws, h1, h2 with | [_], [_], _, _ => rfl)) rfl (by decide)
theorem x_InvalidCrowds_position {P : Program} {w : World} {K : PySem.W.Frag} {mg : Str → Option Value} {bs : Heap} (T : Tx fa fn K mg bs) (TX : exAll rows owns tys K = true) : ExcK P w K mg bs "InvalidCrowds" 1 0 ["position"] ["position"] (fun ws us => byIx [0, 1] (ws ++ us)) := by
  obtain ⟨fd, F⟩ := T.says.def_ 25 rfl
  exact exck_of TX (k := 1) (n := 0) (show rows.find? (fun r => r.c == ("InvalidCrowds" : Str)) = some ⟨"InvalidCrowds", .ve, ["position"], ["InvalidCrowds", "PinsError"]⟩ by kernel_rfl) (by decide) (fun O hf => init1_fnG F S_InvalidCrowds_init O (hf "position" (by decide)) (vis_of (by decide +kernel)) (vis_of (by decide +kernel))) (bdg_kw (ps := ["self", "position"]) F 1 ["position"] [0, 1] (fun _ _ _ _ _ _ us ws h1 h2 => match us, ws, h1, h2 with | [_], [_], _, _ => rfl) (fun us ws h1 h2 => match us, ws, h1, h2 with | [_], [_], _, _ => rfl)) rfl (by decide)
theorem x_InvalidPlan_position {P : Program} {w : World} {K : PySem.W.Frag} {mg : Str → Option Value} {bs : Heap} (T : Tx fa fn K mg bs) (TX : exAll rows owns tys K = true) : ExcK P w K mg bs "InvalidPlan" 1 0 ["position"] ["position"] (fun ws us => byIx [0, 1] (ws ++ us)) := by
  obtain ⟨fd, F⟩ := T.says.def_ 22 rfl
  exact exck_of TX (k := 1) (n := 0) (show rows.find? (fun r => r.c == ("InvalidPlan" : Str)) = some ⟨"InvalidPlan", .ve, ["position"], ["InvalidPlan", "PinsError"]⟩ by kernel_rfl) (by decide) (fun O hf => init1_fnG F S_InvalidPlan_init O (hf "position" (by decide)) (vis_of (by decide +kernel)) (vis_of (by decide +kernel))) (bdg_kw (ps := ["self", "position"]) F 1 ["position"] [0, 1] (fun _ _ _ _ _ _ us ws h1 h2 => match us, ws, h1, h2 with | [_], [_], _, _ => rfl) (fun us ws h1 h2 => match us, ws, h1, h2 with | [_], [_], _, _ => rfl)) rfl (by decide)
theorem x_UnknownName_value {P : Program} {w : World} {K : PySem.W.Frag} {mg : Str → Option Value} {bs : Heap} (T : Tx fa fn K mg bs) (TX : exAll rows owns tys K = true) : ExcK P w K mg bs "UnknownName" 1 0 ["value"] ["value"] (fun ws us => byIx [0, 1] (ws ++ us)) := by
  obtain ⟨fd, F⟩ := T.says.def_ 32 rfl
  exact exck_of TX (k := 1) (n := 0) (show rows.find? (fun r => r.c == ("UnknownName" : Str)) = some ⟨"UnknownName", .le, ["value"], ["UnknownName", "MissingError"]⟩ by kernel_rfl) (by decide) (fun O hf => init1_fnG F S_UnknownName_init O (hf "value" (by decide)) (vis_of (by decide +kernel)) (vis_of (by decide +kernel))) (bdg_kw (ps := ["self", "value"]) F 1 ["value"] [0, 1] (fun _ _ _ _ _ _ us ws h1 h2 => match us, ws, h1, h2 with | [_], [_], _, _ => rfl) (fun us ws h1 h2 => match us, ws, h1, h2 with | [_], [_], _, _ => rfl)) rfl (by decide)
theorem x_InvalidText_line {P : Program} {w : World} {K : PySem.W.Frag} {mg : Str → Option Value} {bs : Heap} (T : Tx fa fn K mg bs) (TX : exAll rows owns tys K = true) : ExcK P w K mg bs "InvalidText" 1 0 ["line"] ["line"] (fun ws us => byIx [0, 1] (ws ++ us)) := by
  obtain ⟨fd, F⟩ := T.says.def_ 29 rfl
  exact exck_of TX (k := 1) (n := 0) (show rows.find? (fun r => r.c == ("InvalidText" : Str)) = some ⟨"InvalidText", .ve, ["line"], ["InvalidText", "PinsError"]⟩ by kernel_rfl) (by decide) (fun O hf => init1_fnG F S_InvalidText_init O (hf "line" (by decide)) (vis_of (by decide +kernel)) (vis_of (by decide +kernel))) (bdg_kw (ps := ["self", "line"]) F 1 ["line"] [0, 1] (fun _ _ _ _ _ _ us ws h1 h2 => match us, ws, h1, h2 with | [_], [_], _, _ => rfl) (fun us ws h1 h2 => match us, ws, h1, h2 with | [_], [_], _, _ => rfl)) rfl (by decide)
theorem x_InvalidParents_position {P : Program} {w : World} {K : PySem.W.Frag} {mg : Str → Option Value} {bs : Heap} (T : Tx fa fn K mg bs) (TX : exAll rows owns tys K = true) : ExcK P w K mg bs "InvalidParents" 1 0 ["position"] ["position"] (fun ws us => byIx [0, 1] (ws ++ us)) := by
  obtain ⟨fd, F⟩ := T.says.def_ 27 rfl
  exact exck_of TX (k := 1) (n := 0) (show rows.find? (fun r => r.c == ("InvalidParents" : Str)) = some ⟨"InvalidParents", .ve, ["position"], ["InvalidParents", "PinsError"]⟩ by kernel_rfl) (by decide) (fun O hf => init1_fnG F S_InvalidParents_init O (hf "position" (by decide)) (vis_of (by decide +kernel)) (vis_of (by decide +kernel))) (bdg_kw (ps := ["self", "position"]) F 1 ["position"] [0, 1] (fun _ _ _ _ _ _ us ws h1 h2 => match us, ws, h1, h2 with | [_], [_], _, _ => rfl) (fun us ws h1 h2 => match us, ws, h1, h2 with | [_], [_], _, _ => rfl)) rfl (by decide)
theorem x_CommonName_name {P : Program} {w : World} {K : PySem.W.Frag} {mg : Str → Option Value} {bs : Heap} (T : Tx fa fn K mg bs) (TX : exAll rows owns tys K = true) : ExcK P w K mg bs "CommonName" 1 0 ["name"] ["name"] (fun ws us => byIx [0, 1] (ws ++ us)) := by
  obtain ⟨fd, F⟩ := T.says.def_ 35 rfl
  exact exck_of TX (k := 1) (n := 0) (show rows.find? (fun r => r.c == ("CommonName" : Str)) = some ⟨"CommonName", .re, ["name"], ["CommonName", "StateError"]⟩ by kernel_rfl) (by decide) (fun O hf => init1_fnG F S_CommonName_init O (hf "name" (by decide)) (vis_of (by decide +kernel)) (vis_of (by decide +kernel))) (bdg_kw (ps := ["self", "name"]) F 1 ["name"] [0, 1] (fun _ _ _ _ _ _ us ws h1 h2 => match us, ws, h1, h2 with | [_], [_], _, _ => rfl) (fun us ws h1 h2 => match us, ws, h1, h2 with | [_], [_], _, _ => rfl)) rfl (by decide)
theorem x_SameName_name {P : Program} {w : World} {K : PySem.W.Frag} {mg : Str → Option Value} {bs : Heap} (T : Tx fa fn K mg bs) (TX : exAll rows owns tys K = true) : ExcK P w K mg bs "SameName" 1 0 ["name"] ["name"] (fun ws us => byIx [0, 1] (ws ++ us)) := by
  obtain ⟨fd, F⟩ := T.says.def_ 34 rfl
  exact exck_of TX (k := 1) (n := 0) (show rows.find? (fun r => r.c == ("SameName" : Str)) = some ⟨"SameName", .re, ["name"], ["SameName", "StateError"]⟩ by kernel_rfl) (by decide) (fun O hf => init1_fnG F S_SameName_init O (hf "name" (by decide)) (vis_of (by decide +kernel)) (vis_of (by decide +kernel))) (bdg_kw (ps := ["self", "name"]) F 1 ["name"] [0, 1] (fun _ _ _ _ _ _ us ws h1 h2 => match us, ws, h1, h2 with | [_], [_], _, _ => rfl) (fun us ws h1 h2 => match us, ws, h1, h2 with | [_], [_], _, _ => rfl)) rfl (by decide)
theorem x_UnknownEnd_value {P : Program} {w : World} {K : PySem.W.Frag} {mg : Str → Option Value} {bs : Heap} (T : Tx fa fn K mg bs) (TX : exAll rows owns tys K = true) : ExcK P w K mg bs "UnknownEnd" 1 0 ["value"] ["value"] (fun ws us => byIx [0, 1] (ws ++ us)) := by
  obtain ⟨fd, F⟩ := T.says.def_ 33 rfl
  exact exck_of TX (k := 1) (n := 0) (show rows.find? (fun r => r.c == ("UnknownEnd" : Str)) = some ⟨"UnknownEnd", .le, ["value"], ["UnknownEnd", "MissingError"]⟩ by kernel_rfl) (by decide) (fun O hf => init1_fnG F S_UnknownEnd_init O (hf "value" (by decide)) (vis_of (by decide +kernel)) (vis_of (by decide +kernel))) (bdg_kw (ps := ["self", "value"]) F 1 ["value"] [0, 1] (fun _ _ _ _ _ _ us ws h1 h2 => match us, ws, h1, h2 with | [_], [_], _, _ => rfl) (fun us ws h1 h2 => match us, ws, h1, h2 with | [_], [_], _, _ => rfl)) rfl (by decide)
theorem x_OtherNames_other_one {P : Program} {w : World} {K : PySem.W.Frag} {mg : Str → Option Value} {bs : Heap} (T : Tx fa fn K mg bs) (TX : exAll rows owns tys K = true) : ExcK P w K mg bs "OtherNames" 1 0 ["other", "one"] ["one", "other"] (fun ws us => byIx [0, 2, 1] (ws ++ us)) := by
  obtain ⟨fd, F⟩ := T.says.def_ 36 rfl
  exact exck_of TX (k := 1) (n := 0) (show rows.find? (fun r => r.c == ("OtherNames" : Str)) = some ⟨"OtherNames", .re, ["one", "other"], ["OtherNames", "StateError"]⟩ by kernel_rfl) (by decide) (fun O hf => init2_fnG F S_OtherNames_init O (hf "one" (by decide)) (hf "other" (by decide)) (vis_of (by decide +kernel)) (vis_of (by decide +kernel)) (vis_of (by decide +kernel))) (bdg_kw (ps := ["self", "one", "other"]) F 1 ["other", "one"] [0, 2, 1] (fun _ _ _ _ _ _ us ws h1 h2 => match us, ws, h1, h2 with | [_], [_, _], _, _ => rfl) (fun us ws h1 h2 => match us, ws, h1, h2 with | [_], [_, _], _, _ => rfl)) rfl (by decide)
theorem x_TooMany_limit_what {P : Program} {w : World} {K : PySem.W.Frag} {mg : Str → Option Value} {bs : Heap} (T : Tx fa fn K mg bs) (TX : exAll rows owns tys K = true) : ExcK P w K mg bs "TooMany" 1 0 ["limit", "what"] ["what", "limit"] (fun ws us => byIx [0, 2, 1] (ws ++ us)) := by
  obtain ⟨fd, F⟩ := T.says.def_ 38 rfl
  exact exck_of TX (k := 1) (n := 0) (show rows.find? (fun r => r.c == ("TooMany" : Str)) = some ⟨"TooMany", .ae, ["what", "limit"], ["TooMany", "LimitError"]⟩ by kernel_rfl) (by decide) (fun O hf => init2_fnG F S_TooMany_init O (hf "what" (by decide)) (hf "limit" (by decide)) (vis_of (by decide +kernel)) (vis_of (by decide +kernel)) (vis_of (by decide +kernel))) (bdg_kw (ps := ["self", "what", "limit"]) F 1 ["limit", "what"] [0, 2, 1] (fun _ _ _ _ _ _ us ws h1 h2 => match us, ws, h1, h2 with | [_], [_, _], _, _ => rfl) (fun us ws h1 h2 => match us, ws, h1, h2 with | [_], [_, _], _, _ => rfl)) rfl (by decide)
theorem x_CommandFailed_position {P : Program} {w : World} {K : PySem.W.Frag} {mg : Str → Option Value} {bs : Heap} (T : Tx fa fn K mg bs) (TX : exAll rows owns tys K = true) : ExcK P w K mg bs "CommandFailed" 1 0 ["position"] ["position"] (fun ws us => byIx [0, 1] (ws ++ us)) := by
  obtain ⟨fd, F⟩ := T.says.def_ 37 rfl
  exact exck_of TX (k := 1) (n := 0) (show rows.find? (fun r => r.c == ("CommandFailed" : Str)) = some ⟨"CommandFailed", .re, ["position"], ["CommandFailed", "StateError"]⟩ by kernel_rfl) (by decide) (fun O hf => init1_fnG F S_CommandFailed_init O (hf "position" (by decide)) (vis_of (by decide +kernel)) (vis_of (by decide +kernel))) (bdg_kw (ps := ["self", "position"]) F 1 ["position"] [0, 1] (fun _ _ _ _ _ _ us ws h1 h2 => match us, ws, h1, h2 with | [_], [_], _, _ => rfl) (fun us ws h1 h2 => match us, ws, h1, h2 with | [_], [_], _, _ => rfl)) rfl (by decide)
abbrev sc__law_pins : Scope := defScope (top 37)
def N__law_pins : List Str := ["_law_some", "_law_found"]
theorem S__law_pins : FnScope N__law_pins ["_law_some"] sc__law_pins := ⟨rfl, rfl, rfl, by decide +kernel, rfl, by decide +kernel, by decide +kernel⟩
def m__law_pins : SM := sSeq (sSet 1 (mLst (mCons (mExc "InvalidName" ["value"] 1 0 (fun ws _ => ws) (mCons (mVar 0) (mNil)) mNil) (mCons (mExc "InvalidPlaces" ["value"] 1 0 (fun ws _ => ws) (mCons (mVar 0) (mNil)) mNil) (mCons (mExc "InvalidPlace" ["value"] 1 0 (fun ws _ => ws) (mCons (mVar 0) (mNil)) mNil) (mCons (mExc "InvalidSign" ["value"] 1 0 (fun ws _ => ws) (mCons (mVar 0) (mNil)) mNil) (mCons (mExc "InvalidPosition" ["value"] 1 0 (fun ws _ => ws) (mCons (mVar 0) (mNil)) mNil) (mNil))))))))
  (sSeq (sSet 1 (mOp fAdd (mVar 1) (mLst (mCons (mExc "InvalidPin" ["value"] 1 0 (fun ws _ => ws) (mCons (mVar 0) (mNil)) mNil) (mCons (mExc "InvalidTimes" ["value"] 1 0 (fun ws _ => ws) (mCons (mVar 0) (mNil)) mNil) (mCons (mExc "InvalidNumber" ["value"] 1 0 (fun ws _ => ws) (mCons (mVar 0) (mNil)) mNil) (mCons (mExc "InvalidBranches" ["value"] 1 0 (fun ws _ => ws) (mCons (mVar 0) (mNil)) mNil) (mNil))))))))
  (sSeq (sSet 1 (mOp fAdd (mVar 1) (mLst (mCons (mExc "InvalidClaim" ["value"] 1 0 (fun ws _ => ws) (mCons (mVar 0) (mNil)) mNil) (mCons (mExc "InvalidCommand" ["value"] 1 0 (fun ws _ => ws) (mCons (mVar 0) (mNil)) mNil) (mCons (mExc "InvalidNames" ["position"] 1 0 (fun ws _ => ws) (mCons (mVar 0) (mNil)) mNil) (mCons (mExc "InvalidFacts" ["position"] 1 0 (fun ws _ => ws) (mCons (mVar 0) (mNil)) mNil) (mNil))))))))
  (sRet (mOp fAdd (mVar 1) (mLst (mCons (mExc "InvalidPlan" ["position"] 1 0 (fun ws _ => ws) (mCons (mVar 0) (mNil)) mNil) (mCons (mExc "InvalidCrowds" ["position"] 1 0 (fun ws _ => ws) (mCons (mVar 0) (mNil)) mNil) (mCons (mExc "InvalidPairs" ["position"] 1 0 (fun ws _ => ws) (mCons (mVar 0) (mNil)) mNil) (mCons (mExc "InvalidParents" ["position"] 1 0 (fun ws _ => ws) (mCons (mVar 0) (mNil)) mNil) (mCons (mExc "InvalidText" ["line"] 1 0 (fun ws _ => ws) (mCons (mVar 0) (mNil)) mNil) (mNil)))))))))))
def F__law_pins : FM := mFn N__law_pins m__law_pins
theorem b__law_pins {X : Cx} (T : Tx fa fn X.K X.mg X.base) (TX : exAll rows owns tys X.K = true) (gF : GoodF X N__law_pins sc__law_pins 2) (x_InvalidPosition : ExcK X.prog X.w X.K X.mg X.base "InvalidPosition" 1 1 [] ["value"] (fun ws _ => ws)) (x_InvalidSign : ExcK X.prog X.w X.K X.mg X.base "InvalidSign" 1 1 [] ["value"] (fun ws _ => ws)) (x_InvalidPlace : ExcK X.prog X.w X.K X.mg X.base "InvalidPlace" 1 1 [] ["value"] (fun ws _ => ws)) (x_InvalidPlaces : ExcK X.prog X.w X.K X.mg X.base "InvalidPlaces" 1 1 [] ["value"] (fun ws _ => ws)) (x_InvalidName : ExcK X.prog X.w X.K X.mg X.base "InvalidName" 1 1 [] ["value"] (fun ws _ => ws)) (x_InvalidBranches : ExcK X.prog X.w X.K X.mg X.base "InvalidBranches" 1 1 [] ["value"] (fun ws _ => ws)) (x_InvalidNumber : ExcK X.prog X.w X.K X.mg X.base "InvalidNumber" 1 1 [] ["value"] (fun ws _ => ws)) (x_InvalidTimes : ExcK X.prog X.w X.K X.mg X.base "InvalidTimes" 1 1 [] ["value"] (fun ws _ => ws)) (x_InvalidPin : ExcK X.prog X.w X.K X.mg X.base "InvalidPin" 1 1 [] ["value"] (fun ws _ => ws)) (x_InvalidFacts : ExcK X.prog X.w X.K X.mg X.base "InvalidFacts" 1 1 [] ["position"] (fun ws _ => ws)) (x_InvalidNames : ExcK X.prog X.w X.K X.mg X.base "InvalidNames" 1 1 [] ["position"] (fun ws _ => ws)) (x_InvalidCommand : ExcK X.prog X.w X.K X.mg X.base "InvalidCommand" 1 1 [] ["value"] (fun ws _ => ws)) (x_InvalidClaim : ExcK X.prog X.w X.K X.mg X.base "InvalidClaim" 1 1 [] ["value"] (fun ws _ => ws)) (x_InvalidText : ExcK X.prog X.w X.K X.mg X.base "InvalidText" 1 1 [] ["line"] (fun ws _ => ws)) (x_InvalidParents : ExcK X.prog X.w X.K X.mg X.base "InvalidParents" 1 1 [] ["position"] (fun ws _ => ws)) (x_InvalidPairs : ExcK X.prog X.w X.K X.mg X.base "InvalidPairs" 1 1 [] ["position"] (fun ws _ => ws)) (x_InvalidCrowds : ExcK X.prog X.w X.K X.mg X.base "InvalidCrowds" 1 1 [] ["position"] (fun ws _ => ws)) (x_InvalidPlan : ExcK X.prog X.w X.K X.mg X.base "InvalidPlan" 1 1 [] ["position"] (fun ws _ => ws)) : SSs X (defBody (top 37)) m__law_pins := by
  have g := gF.toGood
  exact (sss_cons (g.set 1 (se_lst (sa_cons (g.exc x_InvalidName rfl (by kernel_rfl) (T.glo 15 rfl) (sa_cons (g.v 0 (by kernel_rfl)) sa_nil)) (sa_cons (g.exc x_InvalidPlaces rfl (by kernel_rfl) (T.glo 17 rfl) (sa_cons (g.v 0 (by kernel_rfl)) sa_nil)) (sa_cons (g.exc x_InvalidPlace rfl (by kernel_rfl) (T.glo 18 rfl) (sa_cons (g.v 0 (by kernel_rfl)) sa_nil)) (sa_cons (g.exc x_InvalidSign rfl (by kernel_rfl) (T.glo 20 rfl) (sa_cons (g.v 0 (by kernel_rfl)) sa_nil)) (sa_cons (g.exc x_InvalidPosition rfl (by kernel_rfl) (T.glo 21 rfl) (sa_cons (g.v 0 (by kernel_rfl)) sa_nil)) sa_nil)))))) (by kernel_rfl) (by kernel_rfl) (.inl rfl) (fun _ => rfl))
  (sss_cons (g.set 1 (se_op od_add ops_dd (g.v 1 (by kernel_rfl)) (se_lst (sa_cons (g.exc x_InvalidPin rfl (by kernel_rfl) (T.glo 22 rfl) (sa_cons (g.v 0 (by kernel_rfl)) sa_nil)) (sa_cons (g.exc x_InvalidTimes rfl (by kernel_rfl) (T.glo 24 rfl) (sa_cons (g.v 0 (by kernel_rfl)) sa_nil)) (sa_cons (g.exc x_InvalidNumber rfl (by kernel_rfl) (T.glo 25 rfl) (sa_cons (g.v 0 (by kernel_rfl)) sa_nil)) (sa_cons (g.exc x_InvalidBranches rfl (by kernel_rfl) (T.glo 29 rfl) (sa_cons (g.v 0 (by kernel_rfl)) sa_nil)) sa_nil)))))) (by kernel_rfl) (by kernel_rfl) (.inl rfl) (fun _ => rfl))
  (sss_cons (g.set 1 (se_op od_add ops_dd (g.v 1 (by kernel_rfl)) (se_lst (sa_cons (g.exc x_InvalidClaim rfl (by kernel_rfl) (T.glo 31 rfl) (sa_cons (g.v 0 (by kernel_rfl)) sa_nil)) (sa_cons (g.exc x_InvalidCommand rfl (by kernel_rfl) (T.glo 32 rfl) (sa_cons (g.v 0 (by kernel_rfl)) sa_nil)) (sa_cons (g.exc x_InvalidNames rfl (by kernel_rfl) (T.glo 16 rfl) (sa_cons (g.v 0 (by kernel_rfl)) sa_nil)) (sa_cons (g.exc x_InvalidFacts rfl (by kernel_rfl) (T.glo 19 rfl) (sa_cons (g.v 0 (by kernel_rfl)) sa_nil)) sa_nil)))))) (by kernel_rfl) (by kernel_rfl) (.inl rfl) (fun _ => rfl))
  (sss_one (ss_ret (se_op od_add ops_dd (g.v 1 (by kernel_rfl)) (se_lst (sa_cons (g.exc x_InvalidPlan rfl (by kernel_rfl) (T.glo 23 rfl) (sa_cons (g.v 0 (by kernel_rfl)) sa_nil)) (sa_cons (g.exc x_InvalidCrowds rfl (by kernel_rfl) (T.glo 26 rfl) (sa_cons (g.v 0 (by kernel_rfl)) sa_nil)) (sa_cons (g.exc x_InvalidPairs rfl (by kernel_rfl) (T.glo 27 rfl) (sa_cons (g.v 0 (by kernel_rfl)) sa_nil)) (sa_cons (g.exc x_InvalidParents rfl (by kernel_rfl) (T.glo 28 rfl) (sa_cons (g.v 0 (by kernel_rfl)) sa_nil)) (sa_cons (g.exc x_InvalidText rfl (by kernel_rfl) (T.glo 30 rfl) (sa_cons (g.v 0 (by kernel_rfl)) sa_nil)) sa_nil))))))))))))
section
variable {P : Program} {w : World} {K : PySem.W.Frag} {mg : Str → Option Value} {bs : Heap}
theorem kok__law_pins (T : Tx fa fn K mg bs) (TX : exAll rows owns tys K = true) (x_InvalidPosition : ExcK P w K mg bs "InvalidPosition" 1 1 [] ["value"] (fun ws _ => ws)) (x_InvalidSign : ExcK P w K mg bs "InvalidSign" 1 1 [] ["value"] (fun ws _ => ws)) (x_InvalidPlace : ExcK P w K mg bs "InvalidPlace" 1 1 [] ["value"] (fun ws _ => ws)) (x_InvalidPlaces : ExcK P w K mg bs "InvalidPlaces" 1 1 [] ["value"] (fun ws _ => ws)) (x_InvalidName : ExcK P w K mg bs "InvalidName" 1 1 [] ["value"] (fun ws _ => ws)) (x_InvalidBranches : ExcK P w K mg bs "InvalidBranches" 1 1 [] ["value"] (fun ws _ => ws)) (x_InvalidNumber : ExcK P w K mg bs "InvalidNumber" 1 1 [] ["value"] (fun ws _ => ws)) (x_InvalidTimes : ExcK P w K mg bs "InvalidTimes" 1 1 [] ["value"] (fun ws _ => ws)) (x_InvalidPin : ExcK P w K mg bs "InvalidPin" 1 1 [] ["value"] (fun ws _ => ws)) (x_InvalidFacts : ExcK P w K mg bs "InvalidFacts" 1 1 [] ["position"] (fun ws _ => ws)) (x_InvalidNames : ExcK P w K mg bs "InvalidNames" 1 1 [] ["position"] (fun ws _ => ws)) (x_InvalidCommand : ExcK P w K mg bs "InvalidCommand" 1 1 [] ["value"] (fun ws _ => ws)) (x_InvalidClaim : ExcK P w K mg bs "InvalidClaim" 1 1 [] ["value"] (fun ws _ => ws)) (x_InvalidText : ExcK P w K mg bs "InvalidText" 1 1 [] ["line"] (fun ws _ => ws)) (x_InvalidParents : ExcK P w K mg bs "InvalidParents" 1 1 [] ["position"] (fun ws _ => ws)) (x_InvalidPairs : ExcK P w K mg bs "InvalidPairs" 1 1 [] ["position"] (fun ws _ => ws)) (x_InvalidCrowds : ExcK P w K mg bs "InvalidCrowds" 1 1 [] ["position"] (fun ws _ => ws)) (x_InvalidPlan : ExcK P w K mg bs "InvalidPlan" 1 1 [] ["position"] (fun ws _ => ws)) {n : Nat} {ks : List Str} {gW : List W → List W → List W} (hB : ∀ fd, FunD K "_law_pins" "_law_pins" (defArgs (top 37)) (defBody (top 37)) sc__law_pins [] [] (He.ga K "_law_pins") fd → Bdg K fd ["_law_some"] n ks gW) : DefKw P w K mg bs "_law_pins" 3 ["_law_some"] F__law_pins n ks gW :=
  defOk_of (T.says.def_ 4 rfl) S__law_pins T.sm ⟨rfl, by decide, by decide⟩ (fun X e1 e2 e3 e4 e5 g => by subst e1 e2 e3 e4 e5; exact b__law_pins T TX g x_InvalidPosition x_InvalidSign x_InvalidPlace x_InvalidPlaces x_InvalidName x_InvalidBranches x_InvalidNumber x_InvalidTimes x_InvalidPin x_InvalidFacts x_InvalidNames x_InvalidCommand x_InvalidClaim x_InvalidText x_InvalidParents x_InvalidPairs x_InvalidCrowds x_InvalidPlan) hB
theorem ok__law_pins (T : Tx fa fn K mg bs) (TX : exAll rows owns tys K = true) (x_InvalidPosition : ExcK P w K mg bs "InvalidPosition" 1 1 [] ["value"] (fun ws _ => ws)) (x_InvalidSign : ExcK P w K mg bs "InvalidSign" 1 1 [] ["value"] (fun ws _ => ws)) (x_InvalidPlace : ExcK P w K mg bs "InvalidPlace" 1 1 [] ["value"] (fun ws _ => ws)) (x_InvalidPlaces : ExcK P w K mg bs "InvalidPlaces" 1 1 [] ["value"] (fun ws _ => ws)) (x_InvalidName : ExcK P w K mg bs "InvalidName" 1 1 [] ["value"] (fun ws _ => ws)) (x_InvalidBranches : ExcK P w K mg bs "InvalidBranches" 1 1 [] ["value"] (fun ws _ => ws)) (x_InvalidNumber : ExcK P w K mg bs "InvalidNumber" 1 1 [] ["value"] (fun ws _ => ws)) (x_InvalidTimes : ExcK P w K mg bs "InvalidTimes" 1 1 [] ["value"] (fun ws _ => ws)) (x_InvalidPin : ExcK P w K mg bs "InvalidPin" 1 1 [] ["value"] (fun ws _ => ws)) (x_InvalidFacts : ExcK P w K mg bs "InvalidFacts" 1 1 [] ["position"] (fun ws _ => ws)) (x_InvalidNames : ExcK P w K mg bs "InvalidNames" 1 1 [] ["position"] (fun ws _ => ws)) (x_InvalidCommand : ExcK P w K mg bs "InvalidCommand" 1 1 [] ["value"] (fun ws _ => ws)) (x_InvalidClaim : ExcK P w K mg bs "InvalidClaim" 1 1 [] ["value"] (fun ws _ => ws)) (x_InvalidText : ExcK P w K mg bs "InvalidText" 1 1 [] ["line"] (fun ws _ => ws)) (x_InvalidParents : ExcK P w K mg bs "InvalidParents" 1 1 [] ["position"] (fun ws _ => ws)) (x_InvalidPairs : ExcK P w K mg bs "InvalidPairs" 1 1 [] ["position"] (fun ws _ => ws)) (x_InvalidCrowds : ExcK P w K mg bs "InvalidCrowds" 1 1 [] ["position"] (fun ws _ => ws)) (x_InvalidPlan : ExcK P w K mg bs "InvalidPlan" 1 1 [] ["position"] (fun ws _ => ws)) : DefOk P w K mg bs "_law_pins" 3 ["_law_some"] F__law_pins :=
  (kok__law_pins T TX x_InvalidPosition x_InvalidSign x_InvalidPlace x_InvalidPlaces x_InvalidName x_InvalidBranches x_InvalidNumber x_InvalidTimes x_InvalidPin x_InvalidFacts x_InvalidNames x_InvalidCommand x_InvalidClaim x_InvalidText x_InvalidParents x_InvalidPairs x_InvalidCrowds x_InvalidPlan fun fd F => bdg_pos F fun _ _ _ _ _ _ us hl => match us, hl with | [_], _ => rfl).pos
end
abbrev sc__law_rest : Scope := defScope (top 39)
def N__law_rest : List Str := ["_law_some", "_law_more", "_law_found"]
theorem S__law_rest : FnScope N__law_rest ["_law_some", "_law_more"] sc__law_rest := ⟨rfl, rfl, rfl, by decide +kernel, rfl, by decide +kernel, by decide +kernel⟩
def m__law_rest : SM := sSeq (sSet 2 (mLst (mCons (mExc "UnknownName" ["value"] 1 0 (fun ws _ => ws) (mCons (mVar 0) (mNil)) mNil) (mCons (mExc "UnknownEnd" ["value"] 1 0 (fun ws _ => ws) (mCons (mVar 0) (mNil)) mNil) (mCons (mExc "SameName" ["name"] 1 0 (fun ws _ => ws) (mCons (mVar 0) (mNil)) mNil) (mCons (mExc "CommonName" ["name"] 1 0 (fun ws _ => ws) (mCons (mVar 0) (mNil)) mNil) (mCons (mExc "OtherNames" ["one", "other"] 2 0 (fun ws _ => ws) (mCons (mVar 0) (mCons (mVar 1) (mNil))) mNil) (mCons (mExc0 "NoLot") (mNil)))))))))
  (sRet (mOp fAdd (mVar 2) (mLst (mCons (mExc0 "NothingToUndo") (mCons (mExc "CommandFailed" ["position"] 1 0 (fun ws _ => ws) (mCons (mVar 0) (mNil)) mNil) (mCons (mExc "TooMany" ["what", "limit"] 2 0 (fun ws _ => ws) (mCons (mVar 0) (mCons (mVar 1) (mNil))) mNil) (mNil)))))))
def F__law_rest : FM := mFn N__law_rest m__law_rest
theorem b__law_rest {X : Cx} (T : Tx fa fn X.K X.mg X.base) (TX : exAll rows owns tys X.K = true) (gF : GoodF X N__law_rest sc__law_rest 2) (x_OtherNames : ExcK X.prog X.w X.K X.mg X.base "OtherNames" 1 2 [] ["one", "other"] (fun ws _ => ws)) (x_CommonName : ExcK X.prog X.w X.K X.mg X.base "CommonName" 1 1 [] ["name"] (fun ws _ => ws)) (x_SameName : ExcK X.prog X.w X.K X.mg X.base "SameName" 1 1 [] ["name"] (fun ws _ => ws)) (x_UnknownEnd : ExcK X.prog X.w X.K X.mg X.base "UnknownEnd" 1 1 [] ["value"] (fun ws _ => ws)) (x_UnknownName : ExcK X.prog X.w X.K X.mg X.base "UnknownName" 1 1 [] ["value"] (fun ws _ => ws)) (x_TooMany : ExcK X.prog X.w X.K X.mg X.base "TooMany" 1 2 [] ["what", "limit"] (fun ws _ => ws)) (x_CommandFailed : ExcK X.prog X.w X.K X.mg X.base "CommandFailed" 1 1 [] ["position"] (fun ws _ => ws)) : SSs X (defBody (top 39)) m__law_rest := by
  have g := gF.toGood
  exact (sss_cons (g.set 2 (se_lst (sa_cons (g.exc x_UnknownName rfl (by kernel_rfl) (T.glo 34 rfl) (sa_cons (g.v 0 (by kernel_rfl)) sa_nil)) (sa_cons (g.exc x_UnknownEnd rfl (by kernel_rfl) (T.glo 35 rfl) (sa_cons (g.v 0 (by kernel_rfl)) sa_nil)) (sa_cons (g.exc x_SameName rfl (by kernel_rfl) (T.glo 37 rfl) (sa_cons (g.v 0 (by kernel_rfl)) sa_nil)) (sa_cons (g.exc x_CommonName rfl (by kernel_rfl) (T.glo 38 rfl) (sa_cons (g.v 0 (by kernel_rfl)) sa_nil)) (sa_cons (g.exc x_OtherNames rfl (by kernel_rfl) (T.glo 39 rfl) (sa_cons (g.v 0 (by kernel_rfl)) (sa_cons (g.v 1 (by kernel_rfl)) sa_nil))) (sa_cons (g.exc0 TX (by decide) (by kernel_rfl) (T.glo 40 rfl)) sa_nil))))))) (by kernel_rfl) (by kernel_rfl) (.inl rfl) (fun _ => rfl))
  (sss_one (ss_ret (se_op od_add ops_dd (g.v 2 (by kernel_rfl)) (se_lst (sa_cons (g.exc0 TX (by decide) (by kernel_rfl) (T.glo 41 rfl)) (sa_cons (g.exc x_CommandFailed rfl (by kernel_rfl) (T.glo 42 rfl) (sa_cons (g.v 0 (by kernel_rfl)) sa_nil)) (sa_cons (g.exc x_TooMany rfl (by kernel_rfl) (T.glo 44 rfl) (sa_cons (g.v 0 (by kernel_rfl)) (sa_cons (g.v 1 (by kernel_rfl)) sa_nil))) sa_nil))))))))
section
variable {P : Program} {w : World} {K : PySem.W.Frag} {mg : Str → Option Value} {bs : Heap}
theorem kok__law_rest (T : Tx fa fn K mg bs) (TX : exAll rows owns tys K = true) (x_OtherNames : ExcK P w K mg bs "OtherNames" 1 2 [] ["one", "other"] (fun ws _ => ws)) (x_CommonName : ExcK P w K mg bs "CommonName" 1 1 [] ["name"] (fun ws _ => ws)) (x_SameName : ExcK P w K mg bs "SameName" 1 1 [] ["name"] (fun ws _ => ws)) (x_UnknownEnd : ExcK P w K mg bs "UnknownEnd" 1 1 [] ["value"] (fun ws _ => ws)) (x_UnknownName : ExcK P w K mg bs "UnknownName" 1 1 [] ["value"] (fun ws _ => ws)) (x_TooMany : ExcK P w K mg bs "TooMany" 1 2 [] ["what", "limit"] (fun ws _ => ws)) (x_CommandFailed : ExcK P w K mg bs "CommandFailed" 1 1 [] ["position"] (fun ws _ => ws)) {n : Nat} {ks : List Str} {gW : List W → List W → List W} (hB : ∀ fd, FunD K "_law_rest" "_law_rest" (defArgs (top 39)) (defBody (top 39)) sc__law_rest [] [] (He.ga K "_law_rest") fd → Bdg K fd ["_law_some", "_law_more"] n ks gW) : DefKw P w K mg bs "_law_rest" 3 ["_law_some", "_law_more"] F__law_rest n ks gW :=
  defOk_of (T.says.def_ 6 rfl) S__law_rest T.sm ⟨rfl, by decide, by decide⟩ (fun X e1 e2 e3 e4 e5 g => by subst e1 e2 e3 e4 e5; exact b__law_rest T TX g x_OtherNames x_CommonName x_SameName x_UnknownEnd x_UnknownName x_TooMany x_CommandFailed) hB
theorem ok__law_rest (T : Tx fa fn K mg bs) (TX : exAll rows owns tys K = true) (x_OtherNames : ExcK P w K mg bs "OtherNames" 1 2 [] ["one", "other"] (fun ws _ => ws)) (x_CommonName : ExcK P w K mg bs "CommonName" 1 1 [] ["name"] (fun ws _ => ws)) (x_SameName : ExcK P w K mg bs "SameName" 1 1 [] ["name"] (fun ws _ => ws)) (x_UnknownEnd : ExcK P w K mg bs "UnknownEnd" 1 1 [] ["value"] (fun ws _ => ws)) (x_UnknownName : ExcK P w K mg bs "UnknownName" 1 1 [] ["value"] (fun ws _ => ws)) (x_TooMany : ExcK P w K mg bs "TooMany" 1 2 [] ["what", "limit"] (fun ws _ => ws)) (x_CommandFailed : ExcK P w K mg bs "CommandFailed" 1 1 [] ["position"] (fun ws _ => ws)) : DefOk P w K mg bs "_law_rest" 3 ["_law_some", "_law_more"] F__law_rest :=
  (kok__law_rest T TX x_OtherNames x_CommonName x_SameName x_UnknownEnd x_UnknownName x_TooMany x_CommandFailed fun fd F => bdg_pos F fun _ _ _ _ _ _ us hl => match us, hl with | [_, _], _ => rfl).pos
end
abbrev sc__law_bases : Scope := defScope (top 41)
def N__law_bases : List Str := ["_law_e", "_law_found", "_law_kin"]
theorem S__law_bases : FnScope N__law_bases ["_law_e"] sc__law_bases := ⟨rfl, rfl, rfl, by decide +kernel, rfl, by decide +kernel, by decide +kernel⟩
def m__law_bases : SM := sSeq (sSet 1 (mLst (mCons (mCa (fIsX (xTab rows owns tys)) (mCons (mVar 0) (mCons (mC (.cl "PinsError")) (mNil)))) (mCons (mCa (fIsX (xTab rows owns tys)) (mCons (mVar 0) (mCons (mC (.cl "MissingError")) (mNil)))) (mCons (mCa (fIsX (xTab rows owns tys)) (mCons (mVar 0) (mCons (mC (.cl "StateError")) (mNil)))) (mNil))))))
  (sSeq (sSet 1 (mOp fAdd (mVar 1) (mLst (mCons (mCa (fIsX (xTab rows owns tys)) (mCons (mVar 0) (mCons (mC (.cl "LimitError")) (mNil)))) (mCons (mCa (fIsX (xTab rows owns tys)) (mCons (mVar 0) (mCons (mC (.ty "ValueError")) (mNil)))) (mCons (mCa (fIsX (xTab rows owns tys)) (mCons (mVar 0) (mCons (mC (.ty "LookupError")) (mNil)))) (mNil)))))))
  (sSeq (sSet 1 (mOp fAdd (mVar 1) (mLst (mCons (mCa (fIsX (xTab rows owns tys)) (mCons (mVar 0) (mCons (mC (.ty "RuntimeError")) (mNil)))) (mCons (mCa (fIsX (xTab rows owns tys)) (mCons (mVar 0) (mCons (mC (.ty "ArithmeticError")) (mNil)))) (mNil))))))
  (sSeq (sSet 2 (mLst (mCons (mCa (fIsX (xTab rows owns tys)) (mCons (mVar 0) (mCons (mC (.ty "TypeError")) (mNil)))) (mCons (mCa (fIsX (xTab rows owns tys)) (mCons (mVar 0) (mCons (mC (.ty "KeyError")) (mNil)))) (mCons (mCa (fIsX (xTab rows owns tys)) (mCons (mVar 0) (mCons (mC (.ty "IndexError")) (mNil)))) (mCons (mCa (fIsX (xTab rows owns tys)) (mCons (mVar 0) (mCons (mC (.ty "OverflowError")) (mNil)))) (mNil)))))))
  (sSeq (sSet 2 (mOp fAdd (mVar 2) (mLst (mCons (mCa (fIsX (xTab rows owns tys)) (mCons (mVar 0) (mCons (mC (.ty "ZeroDivisionError")) (mNil)))) (mCons (mCa (fIsX (xTab rows owns tys)) (mCons (mVar 0) (mCons (mC (.ty "NotImplementedError")) (mNil)))) (mCons (mCa (fIsX (xTab rows owns tys)) (mCons (mVar 0) (mCons (mC (.ty "AttributeError")) (mNil)))) (mNil)))))))
  (sRet (mOp fAdd (mVar 1) (mVar 2)))))))
def F__law_bases : FM := mFn N__law_bases m__law_bases
theorem b__law_bases {X : Cx} (T : Tx fa fn X.K X.mg X.base) (TX : exAll rows owns tys X.K = true) (gF : GoodF X N__law_bases sc__law_bases 0) : SSs X (defBody (top 41)) m__law_bases := by
  have g := gF.toGood
  exact (sss_cons (g.set 1 (se_lst (sa_cons (se_callB (cd_isx (exAll_tab TX)) cas_dd (g.gl (by kernel_rfl)) (T.free 61 rfl) bt_isinstance (sa_cons (g.v 0 (by kernel_rfl)) (sa_cons (se_gcl (g.gl (by kernel_rfl)) (T.glo 14 rfl)) sa_nil))) (sa_cons (se_callB (cd_isx (exAll_tab TX)) cas_dd (g.gl (by kernel_rfl)) (T.free 61 rfl) bt_isinstance (sa_cons (g.v 0 (by kernel_rfl)) (sa_cons (se_gcl (g.gl (by kernel_rfl)) (T.glo 33 rfl)) sa_nil))) (sa_cons (se_callB (cd_isx (exAll_tab TX)) cas_dd (g.gl (by kernel_rfl)) (T.free 61 rfl) bt_isinstance (sa_cons (g.v 0 (by kernel_rfl)) (sa_cons (se_gcl (g.gl (by kernel_rfl)) (T.glo 36 rfl)) sa_nil))) sa_nil)))) (by kernel_rfl) (by kernel_rfl) (.inl rfl) (fun _ => rfl))
  (sss_cons (g.set 1 (se_op od_add ops_dd (g.v 1 (by kernel_rfl)) (se_lst (sa_cons (se_callB (cd_isx (exAll_tab TX)) cas_dd (g.gl (by kernel_rfl)) (T.free 61 rfl) bt_isinstance (sa_cons (g.v 0 (by kernel_rfl)) (sa_cons (se_gcl (g.gl (by kernel_rfl)) (T.glo 43 rfl)) sa_nil))) (sa_cons (se_callB (cd_isx (exAll_tab TX)) cas_dd (g.gl (by kernel_rfl)) (T.free 61 rfl) bt_isinstance (sa_cons (g.v 0 (by kernel_rfl)) (sa_cons (se_bty (g.gl (by kernel_rfl)) (T.free 54 rfl) (by decide +kernel)) sa_nil))) (sa_cons (se_callB (cd_isx (exAll_tab TX)) cas_dd (g.gl (by kernel_rfl)) (T.free 61 rfl) bt_isinstance (sa_cons (g.v 0 (by kernel_rfl)) (sa_cons (se_bty (g.gl (by kernel_rfl)) (T.free 49 rfl) (by decide +kernel)) sa_nil))) sa_nil))))) (by kernel_rfl) (by kernel_rfl) (.inl rfl) (fun _ => rfl))
  (sss_cons (g.set 1 (se_op od_add ops_dd (g.v 1 (by kernel_rfl)) (se_lst (sa_cons (se_callB (cd_isx (exAll_tab TX)) cas_dd (g.gl (by kernel_rfl)) (T.free 61 rfl) bt_isinstance (sa_cons (g.v 0 (by kernel_rfl)) (sa_cons (se_bty (g.gl (by kernel_rfl)) (T.free 52 rfl) (by decide +kernel)) sa_nil))) (sa_cons (se_callB (cd_isx (exAll_tab TX)) cas_dd (g.gl (by kernel_rfl)) (T.free 61 rfl) bt_isinstance (sa_cons (g.v 0 (by kernel_rfl)) (sa_cons (se_bty (g.gl (by kernel_rfl)) (T.free 45 rfl) (by decide +kernel)) sa_nil))) sa_nil)))) (by kernel_rfl) (by kernel_rfl) (.inl rfl) (fun _ => rfl))
  (sss_cons (g.set 2 (se_lst (sa_cons (se_callB (cd_isx (exAll_tab TX)) cas_dd (g.gl (by kernel_rfl)) (T.free 61 rfl) bt_isinstance (sa_cons (g.v 0 (by kernel_rfl)) (sa_cons (se_bty (g.gl (by kernel_rfl)) (T.free 53 rfl) (by decide +kernel)) sa_nil))) (sa_cons (se_callB (cd_isx (exAll_tab TX)) cas_dd (g.gl (by kernel_rfl)) (T.free 61 rfl) bt_isinstance (sa_cons (g.v 0 (by kernel_rfl)) (sa_cons (se_bty (g.gl (by kernel_rfl)) (T.free 48 rfl) (by decide +kernel)) sa_nil))) (sa_cons (se_callB (cd_isx (exAll_tab TX)) cas_dd (g.gl (by kernel_rfl)) (T.free 61 rfl) bt_isinstance (sa_cons (g.v 0 (by kernel_rfl)) (sa_cons (se_bty (g.gl (by kernel_rfl)) (T.free 47 rfl) (by decide +kernel)) sa_nil))) (sa_cons (se_callB (cd_isx (exAll_tab TX)) cas_dd (g.gl (by kernel_rfl)) (T.free 61 rfl) bt_isinstance (sa_cons (g.v 0 (by kernel_rfl)) (sa_cons (se_bty (g.gl (by kernel_rfl)) (T.free 51 rfl) (by decide +kernel)) sa_nil))) sa_nil))))) (by kernel_rfl) (by kernel_rfl) (.inl rfl) (fun _ => rfl))
  (sss_cons (g.set 2 (se_op od_add ops_dd (g.v 2 (by kernel_rfl)) (se_lst (sa_cons (se_callB (cd_isx (exAll_tab TX)) cas_dd (g.gl (by kernel_rfl)) (T.free 61 rfl) bt_isinstance (sa_cons (g.v 0 (by kernel_rfl)) (sa_cons (se_bty (g.gl (by kernel_rfl)) (T.free 55 rfl) (by decide +kernel)) sa_nil))) (sa_cons (se_callB (cd_isx (exAll_tab TX)) cas_dd (g.gl (by kernel_rfl)) (T.free 61 rfl) bt_isinstance (sa_cons (g.v 0 (by kernel_rfl)) (sa_cons (se_bty (g.gl (by kernel_rfl)) (T.free 50 rfl) (by decide +kernel)) sa_nil))) (sa_cons (se_callB (cd_isx (exAll_tab TX)) cas_dd (g.gl (by kernel_rfl)) (T.free 61 rfl) bt_isinstance (sa_cons (g.v 0 (by kernel_rfl)) (sa_cons (se_bty (g.gl (by kernel_rfl)) (T.free 46 rfl) (by decide +kernel)) sa_nil))) sa_nil))))) (by kernel_rfl) (by kernel_rfl) (.inl rfl) (fun _ => rfl))
  (sss_one (ss_ret (se_op od_add ops_dd (g.v 1 (by kernel_rfl)) (g.v 2 (by kernel_rfl))))))))))
section
variable {P : Program} {w : World} {K : PySem.W.Frag} {mg : Str → Option Value} {bs : Heap}
theorem kok__law_bases (T : Tx fa fn K mg bs) (TX : exAll rows owns tys K = true) {n : Nat} {ks : List Str} {gW : List W → List W → List W} (hB : ∀ fd, FunD K "_law_bases" "_law_bases" (defArgs (top 41)) (defBody (top 41)) sc__law_bases [] [] (He.ga K "_law_bases") fd → Bdg K fd ["_law_e"] n ks gW) : DefKw P w K mg bs "_law_bases" 1 ["_law_e"] F__law_bases n ks gW :=
  defOk_of (T.says.def_ 8 rfl) S__law_bases T.sm ⟨rfl, by decide, by decide⟩ (fun X e1 e2 e3 e4 e5 g => by subst e1 e2 e3 e4 e5; exact b__law_bases T TX g ) hB
theorem ok__law_bases (T : Tx fa fn K mg bs) (TX : exAll rows owns tys K = true) : DefOk P w K mg bs "_law_bases" 1 ["_law_e"] F__law_bases :=
  (kok__law_bases T TX  fun fd F => bdg_pos F fun _ _ _ _ _ _ us hl => match us, hl with | [_], _ => rfl).pos
end
abbrev sc__law_which_pin : Scope := defScope (top 38)
def N__law_which_pin : List Str := ["_law_e", "_law_found"]
theorem S__law_which_pin : FnScope N__law_which_pin ["_law_e"] sc__law_which_pin := ⟨rfl, rfl, rfl, by decide +kernel, rfl, by decide +kernel, by decide +kernel⟩
def m__law_which_pin : SM := sSeq (sSet 1 (mLst (mCons (mCa (fIsX (xTab rows owns tys)) (mCons (mVar 0) (mCons (mC (.cl "InvalidName")) (mNil)))) (mCons (mCa (fIsX (xTab rows owns tys)) (mCons (mVar 0) (mCons (mC (.cl "InvalidPlaces")) (mNil)))) (mCons (mCa (fIsX (xTab rows owns tys)) (mCons (mVar 0) (mCons (mC (.cl "InvalidPlace")) (mNil)))) (mNil))))))
  (sSeq (sSet 1 (mOp fAdd (mVar 1) (mLst (mCons (mCa (fIsX (xTab rows owns tys)) (mCons (mVar 0) (mCons (mC (.cl "InvalidSign")) (mNil)))) (mCons (mCa (fIsX (xTab rows owns tys)) (mCons (mVar 0) (mCons (mC (.cl "InvalidPosition")) (mNil)))) (mCons (mCa (fIsX (xTab rows owns tys)) (mCons (mVar 0) (mCons (mC (.cl "InvalidPin")) (mNil)))) (mNil)))))))
  (sSeq (sSet 1 (mOp fAdd (mVar 1) (mLst (mCons (mCa (fIsX (xTab rows owns tys)) (mCons (mVar 0) (mCons (mC (.cl "InvalidTimes")) (mNil)))) (mCons (mCa (fIsX (xTab rows owns tys)) (mCons (mVar 0) (mCons (mC (.cl "InvalidNumber")) (mNil)))) (mCons (mCa (fIsX (xTab rows owns tys)) (mCons (mVar 0) (mCons (mC (.cl "InvalidBranches")) (mNil)))) (mNil)))))))
  (sSeq (sSet 1 (mOp fAdd (mVar 1) (mLst (mCons (mCa (fIsX (xTab rows owns tys)) (mCons (mVar 0) (mCons (mC (.cl "InvalidClaim")) (mNil)))) (mCons (mCa (fIsX (xTab rows owns tys)) (mCons (mVar 0) (mCons (mC (.cl "InvalidCommand")) (mNil)))) (mCons (mCa (fIsX (xTab rows owns tys)) (mCons (mVar 0) (mCons (mC (.cl "InvalidNames")) (mNil)))) (mNil)))))))
  (sSeq (sSet 1 (mOp fAdd (mVar 1) (mLst (mCons (mCa (fIsX (xTab rows owns tys)) (mCons (mVar 0) (mCons (mC (.cl "InvalidFacts")) (mNil)))) (mCons (mCa (fIsX (xTab rows owns tys)) (mCons (mVar 0) (mCons (mC (.cl "InvalidPlan")) (mNil)))) (mCons (mCa (fIsX (xTab rows owns tys)) (mCons (mVar 0) (mCons (mC (.cl "InvalidCrowds")) (mNil)))) (mNil)))))))
  (sRet (mOp fAdd (mVar 1) (mLst (mCons (mCa (fIsX (xTab rows owns tys)) (mCons (mVar 0) (mCons (mC (.cl "InvalidPairs")) (mNil)))) (mCons (mCa (fIsX (xTab rows owns tys)) (mCons (mVar 0) (mCons (mC (.cl "InvalidParents")) (mNil)))) (mCons (mCa (fIsX (xTab rows owns tys)) (mCons (mVar 0) (mCons (mC (.cl "InvalidText")) (mNil)))) (mNil)))))))))))
def F__law_which_pin : FM := mFn N__law_which_pin m__law_which_pin
theorem b__law_which_pin {X : Cx} (T : Tx fa fn X.K X.mg X.base) (TX : exAll rows owns tys X.K = true) (gF : GoodF X N__law_which_pin sc__law_which_pin 0) : SSs X (defBody (top 38)) m__law_which_pin := by
  have g := gF.toGood
  exact (sss_cons (g.set 1 (se_lst (sa_cons (se_callB (cd_isx (exAll_tab TX)) cas_dd (g.gl (by kernel_rfl)) (T.free 61 rfl) bt_isinstance (sa_cons (g.v 0 (by kernel_rfl)) (sa_cons (se_gcl (g.gl (by kernel_rfl)) (T.glo 15 rfl)) sa_nil))) (sa_cons (se_callB (cd_isx (exAll_tab TX)) cas_dd (g.gl (by kernel_rfl)) (T.free 61 rfl) bt_isinstance (sa_cons (g.v 0 (by kernel_rfl)) (sa_cons (se_gcl (g.gl (by kernel_rfl)) (T.glo 17 rfl)) sa_nil))) (sa_cons (se_callB (cd_isx (exAll_tab TX)) cas_dd (g.gl (by kernel_rfl)) (T.free 61 rfl) bt_isinstance (sa_cons (g.v 0 (by kernel_rfl)) (sa_cons (se_gcl (g.gl (by kernel_rfl)) (T.glo 18 rfl)) sa_nil))) sa_nil)))) (by kernel_rfl) (by kernel_rfl) (.inl rfl) (fun _ => rfl))
  (sss_cons (g.set 1 (se_op od_add ops_dd (g.v 1 (by kernel_rfl)) (se_lst (sa_cons (se_callB (cd_isx (exAll_tab TX)) cas_dd (g.gl (by kernel_rfl)) (T.free 61 rfl) bt_isinstance (sa_cons (g.v 0 (by kernel_rfl)) (sa_cons (se_gcl (g.gl (by kernel_rfl)) (T.glo 20 rfl)) sa_nil))) (sa_cons (se_callB (cd_isx (exAll_tab TX)) cas_dd (g.gl (by kernel_rfl)) (T.free 61 rfl) bt_isinstance (sa_cons (g.v 0 (by kernel_rfl)) (sa_cons (se_gcl (g.gl (by kernel_rfl)) (T.glo 21 rfl)) sa_nil))) (sa_cons (se_callB (cd_isx (exAll_tab TX)) cas_dd (g.gl (by kernel_rfl)) (T.free 61 rfl) bt_isinstance (sa_cons (g.v 0 (by kernel_rfl)) (sa_cons (se_gcl (g.gl (by kernel_rfl)) (T.glo 22 rfl)) sa_nil))) sa_nil))))) (by kernel_rfl) (by kernel_rfl) (.inl rfl) (fun _ => rfl))
  (sss_cons (g.set 1 (se_op od_add ops_dd (g.v 1 (by kernel_rfl)) (se_lst (sa_cons (se_callB (cd_isx (exAll_tab TX)) cas_dd (g.gl (by kernel_rfl)) (T.free 61 rfl) bt_isinstance (sa_cons (g.v 0 (by kernel_rfl)) (sa_cons (se_gcl (g.gl (by kernel_rfl)) (T.glo 24 rfl)) sa_nil))) (sa_cons (se_callB (cd_isx (exAll_tab TX)) cas_dd (g.gl (by kernel_rfl)) (T.free 61 rfl) bt_isinstance (sa_cons (g.v 0 (by kernel_rfl)) (sa_cons (se_gcl (g.gl (by kernel_rfl)) (T.glo 25 rfl)) sa_nil))) (sa_cons (se_callB (cd_isx (exAll_tab TX)) cas_dd (g.gl (by kernel_rfl)) (T.free 61 rfl) bt_isinstance (sa_cons (g.v 0 (by kernel_rfl)) (sa_cons (se_gcl (g.gl (by kernel_rfl)) (T.glo 29 rfl)) sa_nil))) sa_nil))))) (by kernel_rfl) (by kernel_rfl) (.inl rfl) (fun _ => rfl))
  (sss_cons (g.set 1 (se_op od_add ops_dd (g.v 1 (by kernel_rfl)) (se_lst (sa_cons (se_callB (cd_isx (exAll_tab TX)) cas_dd (g.gl (by kernel_rfl)) (T.free 61 rfl) bt_isinstance (sa_cons (g.v 0 (by kernel_rfl)) (sa_cons (se_gcl (g.gl (by kernel_rfl)) (T.glo 31 rfl)) sa_nil))) (sa_cons (se_callB (cd_isx (exAll_tab TX)) cas_dd (g.gl (by kernel_rfl)) (T.free 61 rfl) bt_isinstance (sa_cons (g.v 0 (by kernel_rfl)) (sa_cons (se_gcl (g.gl (by kernel_rfl)) (T.glo 32 rfl)) sa_nil))) (sa_cons (se_callB (cd_isx (exAll_tab TX)) cas_dd (g.gl (by kernel_rfl)) (T.free 61 rfl) bt_isinstance (sa_cons (g.v 0 (by kernel_rfl)) (sa_cons (se_gcl (g.gl (by kernel_rfl)) (T.glo 16 rfl)) sa_nil))) sa_nil))))) (by kernel_rfl) (by kernel_rfl) (.inl rfl) (fun _ => rfl))
  (sss_cons (g.set 1 (se_op od_add ops_dd (g.v 1 (by kernel_rfl)) (se_lst (sa_cons (se_callB (cd_isx (exAll_tab TX)) cas_dd (g.gl (by kernel_rfl)) (T.free 61 rfl) bt_isinstance (sa_cons (g.v 0 (by kernel_rfl)) (sa_cons (se_gcl (g.gl (by kernel_rfl)) (T.glo 19 rfl)) sa_nil))) (sa_cons (se_callB (cd_isx (exAll_tab TX)) cas_dd (g.gl (by kernel_rfl)) (T.free 61 rfl) bt_isinstance (sa_cons (g.v 0 (by kernel_rfl)) (sa_cons (se_gcl (g.gl (by kernel_rfl)) (T.glo 23 rfl)) sa_nil))) (sa_cons (se_callB (cd_isx (exAll_tab TX)) cas_dd (g.gl (by kernel_rfl)) (T.free 61 rfl) bt_isinstance (sa_cons (g.v 0 (by kernel_rfl)) (sa_cons (se_gcl (g.gl (by kernel_rfl)) (T.glo 26 rfl)) sa_nil))) sa_nil))))) (by kernel_rfl) (by kernel_rfl) (.inl rfl) (fun _ => rfl))
  (sss_one (ss_ret (se_op od_add ops_dd (g.v 1 (by kernel_rfl)) (se_lst (sa_cons (se_callB (cd_isx (exAll_tab TX)) cas_dd (g.gl (by kernel_rfl)) (T.free 61 rfl) bt_isinstance (sa_cons (g.v 0 (by kernel_rfl)) (sa_cons (se_gcl (g.gl (by kernel_rfl)) (T.glo 27 rfl)) sa_nil))) (sa_cons (se_callB (cd_isx (exAll_tab TX)) cas_dd (g.gl (by kernel_rfl)) (T.free 61 rfl) bt_isinstance (sa_cons (g.v 0 (by kernel_rfl)) (sa_cons (se_gcl (g.gl (by kernel_rfl)) (T.glo 28 rfl)) sa_nil))) (sa_cons (se_callB (cd_isx (exAll_tab TX)) cas_dd (g.gl (by kernel_rfl)) (T.free 61 rfl) bt_isinstance (sa_cons (g.v 0 (by kernel_rfl)) (sa_cons (se_gcl (g.gl (by kernel_rfl)) (T.glo 30 rfl)) sa_nil))) sa_nil))))))))))))
section
variable {P : Program} {w : World} {K : PySem.W.Frag} {mg : Str → Option Value} {bs : Heap}
theorem kok__law_which_pin (T : Tx fa fn K mg bs) (TX : exAll rows owns tys K = true) {n : Nat} {ks : List Str} {gW : List W → List W → List W} (hB : ∀ fd, FunD K "_law_which_pin" "_law_which_pin" (defArgs (top 38)) (defBody (top 38)) sc__law_which_pin [] [] (He.ga K "_law_which_pin") fd → Bdg K fd ["_law_e"] n ks gW) : DefKw P w K mg bs "_law_which_pin" 1 ["_law_e"] F__law_which_pin n ks gW :=
  defOk_of (T.says.def_ 5 rfl) S__law_which_pin T.sm ⟨rfl, by decide, by decide⟩ (fun X e1 e2 e3 e4 e5 g => by subst e1 e2 e3 e4 e5; exact b__law_which_pin T TX g ) hB
theorem ok__law_which_pin (T : Tx fa fn K mg bs) (TX : exAll rows owns tys K = true) : DefOk P w K mg bs "_law_which_pin" 1 ["_law_e"] F__law_which_pin :=
  (kok__law_which_pin T TX  fun fd F => bdg_pos F fun _ _ _ _ _ _ us hl => match us, hl with | [_], _ => rfl).pos
end
abbrev sc__law_which_rest : Scope := defScope (top 40)
def N__law_which_rest : List Str := ["_law_e", "_law_found"]
theorem S__law_which_rest : FnScope N__law_which_rest ["_law_e"] sc__law_which_rest := ⟨rfl, rfl, rfl, by decide +kernel, rfl, by decide +kernel, by decide +kernel⟩
def m__law_which_rest : SM := sSeq (sSet 1 (mLst (mCons (mCa (fIsX (xTab rows owns tys)) (mCons (mVar 0) (mCons (mC (.cl "UnknownName")) (mNil)))) (mCons (mCa (fIsX (xTab rows owns tys)) (mCons (mVar 0) (mCons (mC (.cl "UnknownEnd")) (mNil)))) (mCons (mCa (fIsX (xTab rows owns tys)) (mCons (mVar 0) (mCons (mC (.cl "SameName")) (mNil)))) (mNil))))))
  (sSeq (sSet 1 (mOp fAdd (mVar 1) (mLst (mCons (mCa (fIsX (xTab rows owns tys)) (mCons (mVar 0) (mCons (mC (.cl "CommonName")) (mNil)))) (mCons (mCa (fIsX (xTab rows owns tys)) (mCons (mVar 0) (mCons (mC (.cl "OtherNames")) (mNil)))) (mCons (mCa (fIsX (xTab rows owns tys)) (mCons (mVar 0) (mCons (mC (.cl "NoLot")) (mNil)))) (mNil)))))))
  (sRet (mOp fAdd (mVar 1) (mLst (mCons (mCa (fIsX (xTab rows owns tys)) (mCons (mVar 0) (mCons (mC (.cl "NothingToUndo")) (mNil)))) (mCons (mCa (fIsX (xTab rows owns tys)) (mCons (mVar 0) (mCons (mC (.cl "CommandFailed")) (mNil)))) (mCons (mCa (fIsX (xTab rows owns tys)) (mCons (mVar 0) (mCons (mC (.cl "TooMany")) (mNil)))) (mNil))))))))
def F__law_which_rest : FM := mFn N__law_which_rest m__law_which_rest
theorem b__law_which_rest {X : Cx} (T : Tx fa fn X.K X.mg X.base) (TX : exAll rows owns tys X.K = true) (gF : GoodF X N__law_which_rest sc__law_which_rest 0) : SSs X (defBody (top 40)) m__law_which_rest := by
  have g := gF.toGood
  exact (sss_cons (g.set 1 (se_lst (sa_cons (se_callB (cd_isx (exAll_tab TX)) cas_dd (g.gl (by kernel_rfl)) (T.free 61 rfl) bt_isinstance (sa_cons (g.v 0 (by kernel_rfl)) (sa_cons (se_gcl (g.gl (by kernel_rfl)) (T.glo 34 rfl)) sa_nil))) (sa_cons (se_callB (cd_isx (exAll_tab TX)) cas_dd (g.gl (by kernel_rfl)) (T.free 61 rfl) bt_isinstance (sa_cons (g.v 0 (by kernel_rfl)) (sa_cons (se_gcl (g.gl (by kernel_rfl)) (T.glo 35 rfl)) sa_nil))) (sa_cons (se_callB (cd_isx (exAll_tab TX)) cas_dd (g.gl (by kernel_rfl)) (T.free 61 rfl) bt_isinstance (sa_cons (g.v 0 (by kernel_rfl)) (sa_cons (se_gcl (g.gl (by kernel_rfl)) (T.glo 37 rfl)) sa_nil))) sa_nil)))) (by kernel_rfl) (by kernel_rfl) (.inl rfl) (fun _ => rfl))
  (sss_cons (g.set 1 (se_op od_add ops_dd (g.v 1 (by kernel_rfl)) (se_lst (sa_cons (se_callB (cd_isx (exAll_tab TX)) cas_dd (g.gl (by kernel_rfl)) (T.free 61 rfl) bt_isinstance (sa_cons (g.v 0 (by kernel_rfl)) (sa_cons (se_gcl (g.gl (by kernel_rfl)) (T.glo 38 rfl)) sa_nil))) (sa_cons (se_callB (cd_isx (exAll_tab TX)) cas_dd (g.gl (by kernel_rfl)) (T.free 61 rfl) bt_isinstance (sa_cons (g.v 0 (by kernel_rfl)) (sa_cons (se_gcl (g.gl (by kernel_rfl)) (T.glo 39 rfl)) sa_nil))) (sa_cons (se_callB (cd_isx (exAll_tab TX)) cas_dd (g.gl (by kernel_rfl)) (T.free 61 rfl) bt_isinstance (sa_cons (g.v 0 (by kernel_rfl)) (sa_cons (se_gcl (g.gl (by kernel_rfl)) (T.glo 40 rfl)) sa_nil))) sa_nil))))) (by kernel_rfl) (by kernel_rfl) (.inl rfl) (fun _ => rfl))
  (sss_one (ss_ret (se_op od_add ops_dd (g.v 1 (by kernel_rfl)) (se_lst (sa_cons (se_callB (cd_isx (exAll_tab TX)) cas_dd (g.gl (by kernel_rfl)) (T.free 61 rfl) bt_isinstance (sa_cons (g.v 0 (by kernel_rfl)) (sa_cons (se_gcl (g.gl (by kernel_rfl)) (T.glo 41 rfl)) sa_nil))) (sa_cons (se_callB (cd_isx (exAll_tab TX)) cas_dd (g.gl (by kernel_rfl)) (T.free 61 rfl) bt_isinstance (sa_cons (g.v 0 (by kernel_rfl)) (sa_cons (se_gcl (g.gl (by kernel_rfl)) (T.glo 42 rfl)) sa_nil))) (sa_cons (se_callB (cd_isx (exAll_tab TX)) cas_dd (g.gl (by kernel_rfl)) (T.free 61 rfl) bt_isinstance (sa_cons (g.v 0 (by kernel_rfl)) (sa_cons (se_gcl (g.gl (by kernel_rfl)) (T.glo 44 rfl)) sa_nil))) sa_nil)))))))))
section
variable {P : Program} {w : World} {K : PySem.W.Frag} {mg : Str → Option Value} {bs : Heap}
theorem kok__law_which_rest (T : Tx fa fn K mg bs) (TX : exAll rows owns tys K = true) {n : Nat} {ks : List Str} {gW : List W → List W → List W} (hB : ∀ fd, FunD K "_law_which_rest" "_law_which_rest" (defArgs (top 40)) (defBody (top 40)) sc__law_which_rest [] [] (He.ga K "_law_which_rest") fd → Bdg K fd ["_law_e"] n ks gW) : DefKw P w K mg bs "_law_which_rest" 1 ["_law_e"] F__law_which_rest n ks gW :=
  defOk_of (T.says.def_ 7 rfl) S__law_which_rest T.sm ⟨rfl, by decide, by decide⟩ (fun X e1 e2 e3 e4 e5 g => by subst e1 e2 e3 e4 e5; exact b__law_which_rest T TX g ) hB
theorem ok__law_which_rest (T : Tx fa fn K mg bs) (TX : exAll rows owns tys K = true) : DefOk P w K mg bs "_law_which_rest" 1 ["_law_e"] F__law_which_rest :=
  (kok__law_which_rest T TX  fun fd F => bdg_pos F fun _ _ _ _ _ _ us hl => match us, hl with | [_], _ => rfl).pos
end
abbrev sc__law_classes_right : Scope := defScope (top 42)
def N__law_classes_right : List Str := ["_law_some", "_law_more", "_law_made", "_law_place", "_law_e", "_law_base", "_law_turn"]
theorem S__law_classes_right : FnScope N__law_classes_right ["_law_some", "_law_more"] sc__law_classes_right := ⟨rfl, rfl, rfl, by decide +kernel, rfl, by decide +kernel, by decide +kernel⟩
def m__law_classes_right : SM := sSeq (sSet 2 (mOp fAdd (mDef 1 0 (fun ws _ => ws) F__law_pins (mCons (mVar 0) (mNil)) mNil) (mDef 2 0 (fun ws _ => ws) F__law_rest (mCons (mVar 0) (mCons (mVar 1) (mNil))) mNil)))
  (sSeq (sFor (iEnumM (mVar 2)) (gTupM 2 (gConss (gSet 3) (gConss (gSet 4) (gNils)))) (sSeq (sIf (mTest (mOp fNe (mOp fAdd (mDef 1 0 (fun ws _ => ws) F__law_which_pin (mCons (mVar 4) (mNil)) mNil) (mDef 1 0 (fun ws _ => ws) F__law_which_rest (mCons (mVar 4) (mNil)) mNil)) (mLc (iRange1 (mCa fLen (mCons (mVar 2) (mNil)))) (.one 6) (tYesM) (mOp gEq (mVar 6) (mVar 3)) [6]))) (sRet (mC (.bl false))) (sNil))
  (sSeq (sSet 5 (mIf (mTest (mOp fLt (mVar 3) (mC (.int 18)))) (mC (.int 0)) (mIf (mTest (mOp fLt (mVar 3) (mC (.int 20)))) (mC (.int 1)) (mIf (mTest (mOp fLt (mVar 3) (mC (.int 26)))) (mC (.int 2)) (mC (.int 3))))))
  (sIf (mTest (mOp fNe (mDef 1 0 (fun ws _ => ws) F__law_bases (mCons (mVar 4) (mNil)) mNil) (mLc (iRange1 (mC (.int 15))) (.one 6) (tYesM) (mOp fIn (mVar 6) (mTup (mCons (mVar 5) (mCons (mOp fAdd (mVar 5) (mC (.int 4))) (mNil))))) [6]))) (sRet (mC (.bl false))) (sNil)))))
  (sRet (mC (.bl true))))
def F__law_classes_right : FM := mFn N__law_classes_right m__law_classes_right
theorem b__law_classes_right {X : Cx} (T : Tx fa fn X.K X.mg X.base) (TX : exAll rows owns tys X.K = true) (gF : GoodF X N__law_classes_right sc__law_classes_right 3) (d__law_pins : DefOk X.prog X.w X.K X.mg X.base "_law_pins" 3 ["_law_some"] F__law_pins) (d__law_rest : DefOk X.prog X.w X.K X.mg X.base "_law_rest" 3 ["_law_some", "_law_more"] F__law_rest) (d__law_which_pin : DefOk X.prog X.w X.K X.mg X.base "_law_which_pin" 1 ["_law_e"] F__law_which_pin) (d__law_which_rest : DefOk X.prog X.w X.K X.mg X.base "_law_which_rest" 1 ["_law_e"] F__law_which_rest) (d__law_bases : DefOk X.prog X.w X.K X.mg X.base "_law_bases" 1 ["_law_e"] F__law_bases) : SSs X (defBody (top 42)) m__law_classes_right := by
  have g := gF.toGood
  exact (sss_cons (g.set 2 (se_op od_add ops_dd (g.callP d__law_pins rfl (by kernel_rfl) (T.glo 4 rfl) (sa_cons (g.v 0 (by kernel_rfl)) sa_nil)) (g.callP d__law_rest rfl (by kernel_rfl) (T.glo 6 rfl) (sa_cons (g.v 0 (by kernel_rfl)) (sa_cons (g.v 1 (by kernel_rfl)) sa_nil)))) (by kernel_rfl) (by kernel_rfl) (.inl rfl) (fun _ => rfl))
  (sss_cons (ss_for gF.pass g.calm (si_enum (g.gl (by kernel_rfl)) (T.free 59 rfl) (g.v 2 (by kernel_rfl))) (sg_tup g.calm (sgs_cons (g.tg 3 (by kernel_rfl) (by kernel_rfl) (.inl rfl)) (sgs_cons (g.tg 4 (by kernel_rfl) (by kernel_rfl) (.inl rfl)) sgs_nil))) (sss_cons (ss_if (st_cmp (od_ne g.rm) ops_dd (se_op od_add ops_dd (g.callP d__law_which_pin rfl (by kernel_rfl) (T.glo 5 rfl) (sa_cons (g.v 4 (by kernel_rfl)) sa_nil)) (g.callP d__law_which_rest rfl (by kernel_rfl) (T.glo 7 rfl) (sa_cons (g.v 4 (by kernel_rfl)) sa_nil))) (g.lc [("_law_turn", 6)] (.one 6) (si_range1 (g.gl (by kernel_rfl)) (T.free 65 rfl) (se_callB cd_len cas_dd (g.gl (by kernel_rfl)) (T.free 62 rfl) bt_len (sa_cons (g.v 2 (by kernel_rfl)) sa_nil))) (blkOk_by (by decide +kernel)) (fun _ _ _ _ _ g1 => ⟨(g1.ct1 6 (by kernel_rfl) (by kernel_rfl) (by first | exact .inl rfl | exact .inr (by kernel_rfl))), sts_nil, (se_cmp (od_geq g1.rm) ops_dd (g1.v 6 (by kernel_rfl)) (g1.v 3 (by kernel_rfl)) (nomark _))⟩) rfl (fun _ _ => rfl)) (nomark _)) (sss_one (ss_ret se_bl)) sss_nil)
  (sss_cons (g.set 5 (se_if (st_cmp od_lt ops_dd (g.v 3 (by kernel_rfl)) se_int (nomark _)) se_int (se_if (st_cmp od_lt ops_dd (g.v 3 (by kernel_rfl)) se_int (nomark _)) se_int (se_if (st_cmp od_lt ops_dd (g.v 3 (by kernel_rfl)) se_int (nomark _)) se_int se_int))) (by kernel_rfl) (by kernel_rfl) (.inl rfl) (fun _ => rfl))
  (sss_one (ss_if (st_cmp (od_ne g.rm) ops_dd (g.callP d__law_bases rfl (by kernel_rfl) (T.glo 8 rfl) (sa_cons (g.v 4 (by kernel_rfl)) sa_nil)) (g.lc [("_law_turn", 6)] (.one 6) (si_range1 (g.gl (by kernel_rfl)) (T.free 65 rfl) se_int) (blkOk_by (by decide +kernel)) (fun _ _ _ _ _ g2 => ⟨(g2.ct1 6 (by kernel_rfl) (by kernel_rfl) (by first | exact .inl rfl | exact .inr (by kernel_rfl))), sts_nil, (se_cmp (od_in g2.rm) ops_dd (g2.v 6 (by kernel_rfl)) (se_tup (sa_cons (g2.v 5 (by kernel_rfl)) (sa_cons (se_op od_add ops_dd (g2.v 5 (by kernel_rfl)) se_int) sa_nil))) (by with_unfolding_all rfl))⟩) rfl (fun _ _ => rfl)) (nomark _)) (sss_one (ss_ret se_bl)) sss_nil)))) (fun _ => rfl))
  (sss_one (ss_ret se_bl))))
section
variable {P : Program} {w : World} {K : PySem.W.Frag} {mg : Str → Option Value} {bs : Heap}
theorem kok__law_classes_right (T : Tx fa fn K mg bs) (TX : exAll rows owns tys K = true) (d__law_pins : DefOk P w K mg bs "_law_pins" 3 ["_law_some"] F__law_pins) (d__law_rest : DefOk P w K mg bs "_law_rest" 3 ["_law_some", "_law_more"] F__law_rest) (d__law_which_pin : DefOk P w K mg bs "_law_which_pin" 1 ["_law_e"] F__law_which_pin) (d__law_which_rest : DefOk P w K mg bs "_law_which_rest" 1 ["_law_e"] F__law_which_rest) (d__law_bases : DefOk P w K mg bs "_law_bases" 1 ["_law_e"] F__law_bases) {n : Nat} {ks : List Str} {gW : List W → List W → List W} (hB : ∀ fd, FunD K "_law_classes_right" "_law_classes_right" (defArgs (top 42)) (defBody (top 42)) sc__law_classes_right [] [] (He.ga K "_law_classes_right") fd → Bdg K fd ["_law_some", "_law_more"] n ks gW) : DefKw P w K mg bs "_law_classes_right" 4 ["_law_some", "_law_more"] F__law_classes_right n ks gW :=
  defOk_of (T.says.def_ 9 rfl) S__law_classes_right T.sm ⟨rfl, by decide, by decide⟩ (fun X e1 e2 e3 e4 e5 g => by subst e1 e2 e3 e4 e5; exact b__law_classes_right T TX g d__law_pins d__law_rest d__law_which_pin d__law_which_rest d__law_bases) hB
theorem ok__law_classes_right (T : Tx fa fn K mg bs) (TX : exAll rows owns tys K = true) (d__law_pins : DefOk P w K mg bs "_law_pins" 3 ["_law_some"] F__law_pins) (d__law_rest : DefOk P w K mg bs "_law_rest" 3 ["_law_some", "_law_more"] F__law_rest) (d__law_which_pin : DefOk P w K mg bs "_law_which_pin" 1 ["_law_e"] F__law_which_pin) (d__law_which_rest : DefOk P w K mg bs "_law_which_rest" 1 ["_law_e"] F__law_which_rest) (d__law_bases : DefOk P w K mg bs "_law_bases" 1 ["_law_e"] F__law_bases) : DefOk P w K mg bs "_law_classes_right" 4 ["_law_some", "_law_more"] F__law_classes_right :=
  (kok__law_classes_right T TX d__law_pins d__law_rest d__law_which_pin d__law_which_rest d__law_bases fun fd F => bdg_pos F fun _ _ _ _ _ _ us hl => match us, hl with | [_, _], _ => rfl).pos
end
abbrev sc__law_draw : Scope := defScope (top 34)
def N__law_draw : List Str := ["_law_pot_here", "_law_size", "_law_digit"]
theorem S__law_draw : FnScope N__law_draw ["_law_pot_here", "_law_size"] sc__law_draw := ⟨rfl, rfl, rfl, by decide +kernel, rfl, by decide +kernel, by decide +kernel⟩
def m__law_draw : SM := sSeq (sIf (mTest (mOp fGt (mOp fIx (mVar 0) (mC (.int 0))) (mC (.int 0)))) (sSeq (sAsg (mCa fDivmod (mCons (mOp fIx (mVar 0) (mC (.int 0))) (mCons (mVar 1) (mNil)))) (gTupM 2 (gConss (gIdx (mVar 0) (mC (.int 0))) (gConss (gSet 2) (gNils)))))
  (sRet (mVar 2))) (sNil))
  (sSeq (sAsg (mOp fMod (mCa fInt (mCons (mOp fAdd (mOp fMul (mOp fIx (mVar 0) (mC (.int 1))) (mC (.int 48271))) (mC (.int 12253))) (mNil))) (mC (.int 2147483587))) (gIdx (mVar 0) (mC (.int 1))))
  (sRet (mOp fMod (mCa fInt (mCons (mOp fDiv (mOp fMod (mCa fInt (mCons (mOp fMul (mOp fIx (mVar 0) (mC (.int 1))) (mOp fIx (mVar 0) (mC (.int 1)))) (mNil))) (mC (.int 2147483549))) (mC (.int 23))) (mNil))) (mVar 1))))
def F__law_draw : FM := mFn N__law_draw m__law_draw
theorem b__law_draw {X : Cx} (T : Tx fa fn X.K X.mg X.base) (TX : exAll rows owns tys X.K = true) (gF : GoodF X N__law_draw sc__law_draw 0) : SSs X (defBody (top 34)) m__law_draw := by
  have g := gF.toGood
  exact (sss_cons (ss_if (st_cmp od_gt ops_dd (se_ix (od_ix g.rm) ops_dd (g.v 0 (by kernel_rfl)) se_int (fun _ _ => rfl)) se_int (nomark _)) (sss_cons (g.asg (se_callB cd_divmod cas_dd (g.gl (by kernel_rfl)) (T.free 58 rfl) bt_divmod (sa_cons (se_ix (od_ix g.rm) ops_dd (g.v 0 (by kernel_rfl)) se_int (fun _ _ => rfl)) (sa_cons (g.v 1 (by kernel_rfl)) sa_nil))) (sg_tup g.calm (sgs_cons (sg_ix g.rm (g.v 0 (by kernel_rfl)) se_int) (sgs_cons (g.tg 2 (by kernel_rfl) (by kernel_rfl) (.inl rfl)) sgs_nil))) (fun _ => rfl) (fun _ => rfl))
  (sss_one (ss_ret (g.v 2 (by kernel_rfl))))) sss_nil)
  (sss_cons (g.asg (se_op od_mod ops_dd (se_callTy cd_int cas_dd (g.gl (by kernel_rfl)) (T.free 60 rfl) bt_int (sa_cons (se_op od_add ops_dd (se_op od_mul ops_dd (se_ix (od_ix g.rm) ops_dd (g.v 0 (by kernel_rfl)) se_int (fun _ _ => rfl)) se_int) se_int) sa_nil)) se_int) (sg_ix g.rm (g.v 0 (by kernel_rfl)) se_int) (fun _ => rfl) (fun _ => rfl))
  (sss_one (ss_ret (se_op od_mod ops_dd (se_callTy cd_int cas_dd (g.gl (by kernel_rfl)) (T.free 60 rfl) bt_int (sa_cons (se_op od_div ops_dd (se_op od_mod ops_dd (se_callTy cd_int cas_dd (g.gl (by kernel_rfl)) (T.free 60 rfl) bt_int (sa_cons (se_op od_mul ops_dd (se_ix (od_ix g.rm) ops_dd (g.v 0 (by kernel_rfl)) se_int (fun _ _ => rfl)) (se_ix (od_ix g.rm) ops_dd (g.v 0 (by kernel_rfl)) se_int (fun _ _ => rfl))) sa_nil)) se_int) se_int) sa_nil)) (g.v 1 (by kernel_rfl)))))))
section
variable {P : Program} {w : World} {K : PySem.W.Frag} {mg : Str → Option Value} {bs : Heap}
theorem kok__law_draw (T : Tx fa fn K mg bs) (TX : exAll rows owns tys K = true) {n : Nat} {ks : List Str} {gW : List W → List W → List W} (hB : ∀ fd, FunD K "_law_draw" "_law_draw" (defArgs (top 34)) (defBody (top 34)) sc__law_draw [] [] (He.ga K "_law_draw") fd → Bdg K fd ["_law_pot_here", "_law_size"] n ks gW) : DefKw P w K mg bs "_law_draw" 1 ["_law_pot_here", "_law_size"] F__law_draw n ks gW :=
  defOk_of (T.says.def_ 1 rfl) S__law_draw T.sm ⟨rfl, by decide, by decide⟩ (fun X e1 e2 e3 e4 e5 g => by subst e1 e2 e3 e4 e5; exact b__law_draw T TX g ) hB
theorem ok__law_draw (T : Tx fa fn K mg bs) (TX : exAll rows owns tys K = true) : DefOk P w K mg bs "_law_draw" 1 ["_law_pot_here", "_law_size"] F__law_draw :=
  (kok__law_draw T TX  fun fd F => bdg_pos F fun _ _ _ _ _ _ us hl => match us, hl with | [_, _], _ => rfl).pos
end
abbrev sc__law_pick : Scope := defScope (top 35)
def N__law_pick : List Str := ["_law_pot_here", "_law_some"]
theorem S__law_pick : FnScope N__law_pick ["_law_pot_here", "_law_some"] sc__law_pick := ⟨rfl, rfl, rfl, by decide +kernel, rfl, by decide +kernel, by decide +kernel⟩
def m__law_pick : SM := sRet (mOp fIx (mVar 1) (mDef 2 0 (fun ws _ => ws) F__law_draw (mCons (mVar 0) (mCons (mCa fLen (mCons (mVar 1) (mNil))) (mNil))) mNil))
def F__law_pick : FM := mFn N__law_pick m__law_pick
theorem b__law_pick {X : Cx} (T : Tx fa fn X.K X.mg X.base) (TX : exAll rows owns tys X.K = true) (gF : GoodF X N__law_pick sc__law_pick 1) (d__law_draw : DefOk X.prog X.w X.K X.mg X.base "_law_draw" 1 ["_law_pot_here", "_law_size"] F__law_draw) : SSs X (defBody (top 35)) m__law_pick := by
  have g := gF.toGood
  exact (sss_one (ss_ret (se_ix (od_ix g.rm) ops_dd (g.v 1 (by kernel_rfl)) (g.callP d__law_draw rfl (by kernel_rfl) (T.glo 1 rfl) (sa_cons (g.v 0 (by kernel_rfl)) (sa_cons (se_callB cd_len cas_dd (g.gl (by kernel_rfl)) (T.free 62 rfl) bt_len (sa_cons (g.v 1 (by kernel_rfl)) sa_nil)) sa_nil))) (fun _ _ => rfl))))
section
variable {P : Program} {w : World} {K : PySem.W.Frag} {mg : Str → Option Value} {bs : Heap}
theorem kok__law_pick (T : Tx fa fn K mg bs) (TX : exAll rows owns tys K = true) (d__law_draw : DefOk P w K mg bs "_law_draw" 1 ["_law_pot_here", "_law_size"] F__law_draw) {n : Nat} {ks : List Str} {gW : List W → List W → List W} (hB : ∀ fd, FunD K "_law_pick" "_law_pick" (defArgs (top 35)) (defBody (top 35)) sc__law_pick [] [] (He.ga K "_law_pick") fd → Bdg K fd ["_law_pot_here", "_law_some"] n ks gW) : DefKw P w K mg bs "_law_pick" 2 ["_law_pot_here", "_law_some"] F__law_pick n ks gW :=
  defOk_of (T.says.def_ 2 rfl) S__law_pick T.sm ⟨rfl, by decide, by decide⟩ (fun X e1 e2 e3 e4 e5 g => by subst e1 e2 e3 e4 e5; exact b__law_pick T TX g d__law_draw) hB
theorem ok__law_pick (T : Tx fa fn K mg bs) (TX : exAll rows owns tys K = true) (d__law_draw : DefOk P w K mg bs "_law_draw" 1 ["_law_pot_here", "_law_size"] F__law_draw) : DefOk P w K mg bs "_law_pick" 2 ["_law_pot_here", "_law_some"] F__law_pick :=
  (kok__law_pick T TX d__law_draw fun fd F => bdg_pos F fun _ _ _ _ _ _ us hl => match us, hl with | [_, _], _ => rfl).pos
end
abbrev sc__law_thing : Scope := defScope (top 36)
def N__law_thing : List Str := ["_law_pot_here", "_law_some"]
theorem S__law_thing : FnScope N__law_thing ["_law_pot_here"] sc__law_thing := ⟨rfl, rfl, rfl, by decide +kernel, rfl, by decide +kernel, by decide +kernel⟩
def m__law_thing : SM := sSeq (sSet 1 (mLst (mCons (mC (.int 0)) (mCons (mC (.int 1)) (mCons (mOp fSub (mC (.int 0)) (mC (.int 1))) (mCons (mDef 2 0 (fun ws _ => ws) F__law_draw (mCons (mVar 0) (mCons (mC (.int 300)) (mNil))) mNil) (mCons (mOp fSub (mC (.int 0)) (mDef 2 0 (fun ws _ => ws) F__law_draw (mCons (mVar 0) (mCons (mOp fPow (mC (.int 10)) (mC (.int 9))) (mNil))) mNil)) (mCons (mOp fAdd (mOp fPow (mC (.int 10)) (mC (.int 29))) (mDef 2 0 (fun ws _ => ws) F__law_draw (mCons (mVar 0) (mCons (mC (.int 99)) (mNil))) mNil)) (mCons (mC (.bl true)) (mCons (mC (.bl false)) (mNil)))))))))))
  (sSeq (sSet 1 (mOp fAdd (mVar 1) (mLst (mCons (mC .non) (mCons (mC (.str "")) (mCons (mC (.str "a")) (mCons (mC (.str "begin")) (mCons (mC (.str "a.end")) (mCons (mTup (mNil)) (mCons (mTup (mCons (mC (.str "a")) (mNil))) (mCons (mTup (mCons (mC (.str "a")) (mCons (mC (.str "end")) (mNil)))) (mCons (mLst (mNil)) (mCons (mLst (mCons (mC (.str "a")) (mNil))) (mCons (mC (.dct [])) (mCons (mDct [(mC (.str "a"), mTup (mCons (mC (.int 0)) (mCons (mC (.int 1)) (mNil))))]) (mCons (mTup (mCons (mC .non) (mCons (mC (.int 0)) (mNil)))) (mNil)))))))))))))))))
  (sRet (mDef 2 0 (fun ws _ => ws) F__law_pick (mCons (mVar 0) (mCons (mVar 1) (mNil))) mNil)))
def F__law_thing : FM := mFn N__law_thing m__law_thing
theorem b__law_thing {X : Cx} (T : Tx fa fn X.K X.mg X.base) (TX : exAll rows owns tys X.K = true) (gF : GoodF X N__law_thing sc__law_thing 2) (d__law_draw : DefOk X.prog X.w X.K X.mg X.base "_law_draw" 1 ["_law_pot_here", "_law_size"] F__law_draw) (d__law_pick : DefOk X.prog X.w X.K X.mg X.base "_law_pick" 2 ["_law_pot_here", "_law_some"] F__law_pick) : SSs X (defBody (top 36)) m__law_thing := by
  have g := gF.toGood
  exact (sss_cons (g.set 1 (se_lst (sa_cons se_int (sa_cons se_int (sa_cons (se_op od_sub ops_dd se_int se_int) (sa_cons (g.callP d__law_draw rfl (by kernel_rfl) (T.glo 1 rfl) (sa_cons (g.v 0 (by kernel_rfl)) (sa_cons se_int sa_nil))) (sa_cons (se_op od_sub ops_dd se_int (g.callP d__law_draw rfl (by kernel_rfl) (T.glo 1 rfl) (sa_cons (g.v 0 (by kernel_rfl)) (sa_cons (se_op od_pow ops_dd se_int se_int) sa_nil)))) (sa_cons (se_op od_add ops_dd (se_op od_pow ops_dd se_int se_int) (g.callP d__law_draw rfl (by kernel_rfl) (T.glo 1 rfl) (sa_cons (g.v 0 (by kernel_rfl)) (sa_cons se_int sa_nil)))) (sa_cons se_bl (sa_cons se_bl sa_nil))))))))) (by kernel_rfl) (by kernel_rfl) (.inl rfl) (fun _ => rfl))
  (sss_cons (g.set 1 (se_op od_add ops_dd (g.v 1 (by kernel_rfl)) (se_lst (sa_cons se_non (sa_cons se_str (sa_cons se_str (sa_cons se_str (sa_cons se_str (sa_cons (se_tup sa_nil) (sa_cons (se_tup (sa_cons se_str sa_nil)) (sa_cons (se_tup (sa_cons se_str (sa_cons se_str sa_nil))) (sa_cons (se_lst sa_nil) (sa_cons (se_lst (sa_cons se_str sa_nil)) (sa_cons se_dct0 (sa_cons (se_dct (sps_cons se_str (se_tup (sa_cons se_int (sa_cons se_int sa_nil))) sps_nil)) (sa_cons (se_tup (sa_cons se_non (sa_cons se_int sa_nil))) sa_nil))))))))))))))) (by kernel_rfl) (by kernel_rfl) (.inl rfl) (fun _ => rfl))
  (sss_one (ss_ret (g.callP d__law_pick rfl (by kernel_rfl) (T.glo 2 rfl) (sa_cons (g.v 0 (by kernel_rfl)) (sa_cons (g.v 1 (by kernel_rfl)) sa_nil)))))))
section
variable {P : Program} {w : World} {K : PySem.W.Frag} {mg : Str → Option Value} {bs : Heap}
theorem kok__law_thing (T : Tx fa fn K mg bs) (TX : exAll rows owns tys K = true) (d__law_draw : DefOk P w K mg bs "_law_draw" 1 ["_law_pot_here", "_law_size"] F__law_draw) (d__law_pick : DefOk P w K mg bs "_law_pick" 2 ["_law_pot_here", "_law_some"] F__law_pick) {n : Nat} {ks : List Str} {gW : List W → List W → List W} (hB : ∀ fd, FunD K "_law_thing" "_law_thing" (defArgs (top 36)) (defBody (top 36)) sc__law_thing [] [] (He.ga K "_law_thing") fd → Bdg K fd ["_law_pot_here"] n ks gW) : DefKw P w K mg bs "_law_thing" 3 ["_law_pot_here"] F__law_thing n ks gW :=
  defOk_of (T.says.def_ 3 rfl) S__law_thing T.sm ⟨rfl, by decide, by decide⟩ (fun X e1 e2 e3 e4 e5 g => by subst e1 e2 e3 e4 e5; exact b__law_thing T TX g d__law_draw d__law_pick) hB
theorem ok__law_thing (T : Tx fa fn K mg bs) (TX : exAll rows owns tys K = true) (d__law_draw : DefOk P w K mg bs "_law_draw" 1 ["_law_pot_here", "_law_size"] F__law_draw) (d__law_pick : DefOk P w K mg bs "_law_pick" 2 ["_law_pot_here", "_law_some"] F__law_pick) : DefOk P w K mg bs "_law_thing" 3 ["_law_pot_here"] F__law_thing :=
  (kok__law_thing T TX d__law_draw d__law_pick fun fd F => bdg_pos F fun _ _ _ _ _ _ us hl => match us, hl with | [_], _ => rfl).pos
end
abbrev sc__law_by_name : Scope := defScope (top 44)
def N__law_by_name : List Str := ["_law_some", "_law_more", "_law_found"]
theorem S__law_by_name : FnScope N__law_by_name ["_law_some", "_law_more"] sc__law_by_name := ⟨rfl, rfl, rfl, by decide +kernel, rfl, by decide +kernel, by decide +kernel⟩
def m__law_by_name : SM := sSeq (sSet 2 (mLst (mCons (mExc "InvalidName" ["value"] 0 1 (fun ws us => byIx [0, 1] (ws ++ us)) mNil (mCons (mVar 0) (mNil))) (mCons (mExc "InvalidPlaces" ["value"] 0 1 (fun ws us => byIx [0, 1] (ws ++ us)) mNil (mCons (mVar 0) (mNil))) (mCons (mExc "InvalidPlace" ["value"] 0 1 (fun ws us => byIx [0, 1] (ws ++ us)) mNil (mCons (mVar 0) (mNil))) (mCons (mExc "InvalidSign" ["value"] 0 1 (fun ws us => byIx [0, 1] (ws ++ us)) mNil (mCons (mVar 0) (mNil))) (mNil)))))))
  (sSeq (sSet 2 (mOp fAdd (mVar 2) (mLst (mCons (mExc "InvalidPosition" ["value"] 0 1 (fun ws us => byIx [0, 1] (ws ++ us)) mNil (mCons (mVar 0) (mNil))) (mCons (mExc "InvalidPin" ["value"] 0 1 (fun ws us => byIx [0, 1] (ws ++ us)) mNil (mCons (mVar 0) (mNil))) (mCons (mExc "InvalidTimes" ["value"] 0 1 (fun ws us => byIx [0, 1] (ws ++ us)) mNil (mCons (mVar 0) (mNil))) (mNil)))))))
  (sSeq (sSet 2 (mOp fAdd (mVar 2) (mLst (mCons (mExc "InvalidNumber" ["value"] 0 1 (fun ws us => byIx [0, 1] (ws ++ us)) mNil (mCons (mVar 0) (mNil))) (mCons (mExc "InvalidBranches" ["value"] 0 1 (fun ws us => byIx [0, 1] (ws ++ us)) mNil (mCons (mVar 0) (mNil))) (mCons (mExc "InvalidClaim" ["value"] 0 1 (fun ws us => byIx [0, 1] (ws ++ us)) mNil (mCons (mVar 0) (mNil))) (mNil)))))))
  (sSeq (sSet 2 (mOp fAdd (mVar 2) (mLst (mCons (mExc "InvalidCommand" ["value"] 0 1 (fun ws us => byIx [0, 1] (ws ++ us)) mNil (mCons (mVar 0) (mNil))) (mCons (mExc "InvalidNames" ["position"] 0 1 (fun ws us => byIx [0, 1] (ws ++ us)) mNil (mCons (mVar 0) (mNil))) (mCons (mExc "InvalidFacts" ["position"] 0 1 (fun ws us => byIx [0, 1] (ws ++ us)) mNil (mCons (mVar 0) (mNil))) (mNil)))))))
  (sSeq (sSet 2 (mOp fAdd (mVar 2) (mLst (mCons (mExc "InvalidPlan" ["position"] 0 1 (fun ws us => byIx [0, 1] (ws ++ us)) mNil (mCons (mVar 0) (mNil))) (mCons (mExc "InvalidCrowds" ["position"] 0 1 (fun ws us => byIx [0, 1] (ws ++ us)) mNil (mCons (mVar 0) (mNil))) (mCons (mExc "InvalidPairs" ["position"] 0 1 (fun ws us => byIx [0, 1] (ws ++ us)) mNil (mCons (mVar 0) (mNil))) (mNil)))))))
  (sSeq (sSet 2 (mOp fAdd (mVar 2) (mLst (mCons (mExc "InvalidParents" ["position"] 0 1 (fun ws us => byIx [0, 1] (ws ++ us)) mNil (mCons (mVar 0) (mNil))) (mCons (mExc "InvalidText" ["line"] 0 1 (fun ws us => byIx [0, 1] (ws ++ us)) mNil (mCons (mVar 0) (mNil))) (mCons (mExc "UnknownName" ["value"] 0 1 (fun ws us => byIx [0, 1] (ws ++ us)) mNil (mCons (mVar 0) (mNil))) (mNil)))))))
  (sSeq (sSet 2 (mOp fAdd (mVar 2) (mLst (mCons (mExc "UnknownEnd" ["value"] 0 1 (fun ws us => byIx [0, 1] (ws ++ us)) mNil (mCons (mVar 0) (mNil))) (mCons (mExc "SameName" ["name"] 0 1 (fun ws us => byIx [0, 1] (ws ++ us)) mNil (mCons (mVar 0) (mNil))) (mCons (mExc "CommonName" ["name"] 0 1 (fun ws us => byIx [0, 1] (ws ++ us)) mNil (mCons (mVar 0) (mNil))) (mNil)))))))
  (sSeq (sSet 2 (mOp fAdd (mVar 2) (mLst (mCons (mExc "OtherNames" ["one", "other"] 0 2 (fun ws us => byIx [0, 2, 1] (ws ++ us)) mNil (mCons (mVar 1) (mCons (mVar 0) (mNil)))) (mNil)))))
  (sRet (mOp fAdd (mVar 2) (mLst (mCons (mExc0 "NoLot") (mCons (mExc0 "NothingToUndo") (mCons (mExc "CommandFailed" ["position"] 0 1 (fun ws us => byIx [0, 1] (ws ++ us)) mNil (mCons (mVar 0) (mNil))) (mCons (mExc "TooMany" ["what", "limit"] 0 2 (fun ws us => byIx [0, 2, 1] (ws ++ us)) mNil (mCons (mVar 1) (mCons (mVar 0) (mNil)))) (mNil)))))))))))))))
def F__law_by_name : FM := mFn N__law_by_name m__law_by_name
theorem b__law_by_name {X : Cx} (T : Tx fa fn X.K X.mg X.base) (TX : exAll rows owns tys X.K = true) (gF : GoodF X N__law_by_name sc__law_by_name 2) (x_InvalidSign_value : ExcK X.prog X.w X.K X.mg X.base "InvalidSign" 1 0 ["value"] ["value"] (fun ws us => byIx [0, 1] (ws ++ us))) (x_InvalidPlace_value : ExcK X.prog X.w X.K X.mg X.base "InvalidPlace" 1 0 ["value"] ["value"] (fun ws us => byIx [0, 1] (ws ++ us))) (x_InvalidPlaces_value : ExcK X.prog X.w X.K X.mg X.base "InvalidPlaces" 1 0 ["value"] ["value"] (fun ws us => byIx [0, 1] (ws ++ us))) (x_InvalidName_value : ExcK X.prog X.w X.K X.mg X.base "InvalidName" 1 0 ["value"] ["value"] (fun ws us => byIx [0, 1] (ws ++ us))) (x_InvalidTimes_value : ExcK X.prog X.w X.K X.mg X.base "InvalidTimes" 1 0 ["value"] ["value"] (fun ws us => byIx [0, 1] (ws ++ us))) (x_InvalidPin_value : ExcK X.prog X.w X.K X.mg X.base "InvalidPin" 1 0 ["value"] ["value"] (fun ws us => byIx [0, 1] (ws ++ us))) (x_InvalidPosition_value : ExcK X.prog X.w X.K X.mg X.base "InvalidPosition" 1 0 ["value"] ["value"] (fun ws us => byIx [0, 1] (ws ++ us))) (x_InvalidClaim_value : ExcK X.prog X.w X.K X.mg X.base "InvalidClaim" 1 0 ["value"] ["value"] (fun ws us => byIx [0, 1] (ws ++ us))) (x_InvalidBranches_value : ExcK X.prog X.w X.K X.mg X.base "InvalidBranches" 1 0 ["value"] ["value"] (fun ws us => byIx [0, 1] (ws ++ us))) (x_InvalidNumber_value : ExcK X.prog X.w X.K X.mg X.base "InvalidNumber" 1 0 ["value"] ["value"] (fun ws us => byIx [0, 1] (ws ++ us))) (x_InvalidFacts_position : ExcK X.prog X.w X.K X.mg X.base "InvalidFacts" 1 0 ["position"] ["position"] (fun ws us => byIx [0, 1] (ws ++ us))) (x_InvalidNames_position : ExcK X.prog X.w X.K X.mg X.base "InvalidNames" 1 0 ["position"] ["position"] (fun ws us => byIx [0, 1] (ws ++ us))) (x_InvalidCommand_value : ExcK X.prog X.w X.K X.mg X.base "InvalidCommand" 1 0 ["value"] ["value"] (fun ws us => byIx [0, 1] (ws ++ us))) (x_InvalidPairs_position : ExcK X.prog X.w X.K X.mg X.base "InvalidPairs" 1 0 ["position"] ["position"] (fun ws us => byIx [0, 1] (ws ++ us))) (x_InvalidCrowds_position : ExcK X.prog X.w X.K X.mg X.base "InvalidCrowds" 1 0 ["position"] ["position"] (fun ws us => byIx [0, 1] (ws ++ us))) (x_InvalidPlan_position : ExcK X.prog X.w X.K X.mg X.base "InvalidPlan" 1 0 ["position"] ["position"] (fun ws us => byIx [0, 1] (ws ++ us))) (x_UnknownName_value : ExcK X.prog X.w X.K X.mg X.base "UnknownName" 1 0 ["value"] ["value"] (fun ws us => byIx [0, 1] (ws ++ us))) (x_InvalidText_line : ExcK X.prog X.w X.K X.mg X.base "InvalidText" 1 0 ["line"] ["line"] (fun ws us => byIx [0, 1] (ws ++ us))) (x_InvalidParents_position : ExcK X.prog X.w X.K X.mg X.base "InvalidParents" 1 0 ["position"] ["position"] (fun ws us => byIx [0, 1] (ws ++ us))) (x_CommonName_name : ExcK X.prog X.w X.K X.mg X.base "CommonName" 1 0 ["name"] ["name"] (fun ws us => byIx [0, 1] (ws ++ us))) (x_SameName_name : ExcK X.prog X.w X.K X.mg X.base "SameName" 1 0 ["name"] ["name"] (fun ws us => byIx [0, 1] (ws ++ us))) (x_UnknownEnd_value : ExcK X.prog X.w X.K X.mg X.base "UnknownEnd" 1 0 ["value"] ["value"] (fun ws us => byIx [0, 1] (ws ++ us))) (x_OtherNames_other_one : ExcK X.prog X.w X.K X.mg X.base "OtherNames" 1 0 ["other", "one"] ["one", "other"] (fun ws us => byIx [0, 2, 1] (ws ++ us))) (x_TooMany_limit_what : ExcK X.prog X.w X.K X.mg X.base "TooMany" 1 0 ["limit", "what"] ["what", "limit"] (fun ws us => byIx [0, 2, 1] (ws ++ us))) (x_CommandFailed_position : ExcK X.prog X.w X.K X.mg X.base "CommandFailed" 1 0 ["position"] ["position"] (fun ws us => byIx [0, 1] (ws ++ us))) : SSs X (defBody (top 44)) m__law_by_name := by
  have g := gF.toGood
  exact (sss_cons (g.set 2 (se_lst (sa_cons (g.excK0 x_InvalidName_value rfl (by kernel_rfl) (T.glo 15 rfl) (sk_cons (g.v 0 (by kernel_rfl)) sk_nil)) (sa_cons (g.excK0 x_InvalidPlaces_value rfl (by kernel_rfl) (T.glo 17 rfl) (sk_cons (g.v 0 (by kernel_rfl)) sk_nil)) (sa_cons (g.excK0 x_InvalidPlace_value rfl (by kernel_rfl) (T.glo 18 rfl) (sk_cons (g.v 0 (by kernel_rfl)) sk_nil)) (sa_cons (g.excK0 x_InvalidSign_value rfl (by kernel_rfl) (T.glo 20 rfl) (sk_cons (g.v 0 (by kernel_rfl)) sk_nil)) sa_nil))))) (by kernel_rfl) (by kernel_rfl) (.inl rfl) (fun _ => rfl))
  (sss_cons (g.set 2 (se_op od_add ops_dd (g.v 2 (by kernel_rfl)) (se_lst (sa_cons (g.excK0 x_InvalidPosition_value rfl (by kernel_rfl) (T.glo 21 rfl) (sk_cons (g.v 0 (by kernel_rfl)) sk_nil)) (sa_cons (g.excK0 x_InvalidPin_value rfl (by kernel_rfl) (T.glo 22 rfl) (sk_cons (g.v 0 (by kernel_rfl)) sk_nil)) (sa_cons (g.excK0 x_InvalidTimes_value rfl (by kernel_rfl) (T.glo 24 rfl) (sk_cons (g.v 0 (by kernel_rfl)) sk_nil)) sa_nil))))) (by kernel_rfl) (by kernel_rfl) (.inl rfl) (fun _ => rfl))
  (sss_cons (g.set 2 (se_op od_add ops_dd (g.v 2 (by kernel_rfl)) (se_lst (sa_cons (g.excK0 x_InvalidNumber_value rfl (by kernel_rfl) (T.glo 25 rfl) (sk_cons (g.v 0 (by kernel_rfl)) sk_nil)) (sa_cons (g.excK0 x_InvalidBranches_value rfl (by kernel_rfl) (T.glo 29 rfl) (sk_cons (g.v 0 (by kernel_rfl)) sk_nil)) (sa_cons (g.excK0 x_InvalidClaim_value rfl (by kernel_rfl) (T.glo 31 rfl) (sk_cons (g.v 0 (by kernel_rfl)) sk_nil)) sa_nil))))) (by kernel_rfl) (by kernel_rfl) (.inl rfl) (fun _ => rfl))
  (sss_cons (g.set 2 (se_op od_add ops_dd (g.v 2 (by kernel_rfl)) (se_lst (sa_cons (g.excK0 x_InvalidCommand_value rfl (by kernel_rfl) (T.glo 32 rfl) (sk_cons (g.v 0 (by kernel_rfl)) sk_nil)) (sa_cons (g.excK0 x_InvalidNames_position rfl (by kernel_rfl) (T.glo 16 rfl) (sk_cons (g.v 0 (by kernel_rfl)) sk_nil)) (sa_cons (g.excK0 x_InvalidFacts_position rfl (by kernel_rfl) (T.glo 19 rfl) (sk_cons (g.v 0 (by kernel_rfl)) sk_nil)) sa_nil))))) (by kernel_rfl) (by kernel_rfl) (.inl rfl) (fun _ => rfl))
  (sss_cons (g.set 2 (se_op od_add ops_dd (g.v 2 (by kernel_rfl)) (se_lst (sa_cons (g.excK0 x_InvalidPlan_position rfl (by kernel_rfl) (T.glo 23 rfl) (sk_cons (g.v 0 (by kernel_rfl)) sk_nil)) (sa_cons (g.excK0 x_InvalidCrowds_position rfl (by kernel_rfl) (T.glo 26 rfl) (sk_cons (g.v 0 (by kernel_rfl)) sk_nil)) (sa_cons (g.excK0 x_InvalidPairs_position rfl (by kernel_rfl) (T.glo 27 rfl) (sk_cons (g.v 0 (by kernel_rfl)) sk_nil)) sa_nil))))) (by kernel_rfl) (by kernel_rfl) (.inl rfl) (fun _ => rfl))
  (sss_cons (g.set 2 (se_op od_add ops_dd (g.v 2 (by kernel_rfl)) (se_lst (sa_cons (g.excK0 x_InvalidParents_position rfl (by kernel_rfl) (T.glo 28 rfl) (sk_cons (g.v 0 (by kernel_rfl)) sk_nil)) (sa_cons (g.excK0 x_InvalidText_line rfl (by kernel_rfl) (T.glo 30 rfl) (sk_cons (g.v 0 (by kernel_rfl)) sk_nil)) (sa_cons (g.excK0 x_UnknownName_value rfl (by kernel_rfl) (T.glo 34 rfl) (sk_cons (g.v 0 (by kernel_rfl)) sk_nil)) sa_nil))))) (by kernel_rfl) (by kernel_rfl) (.inl rfl) (fun _ => rfl))
  (sss_cons (g.set 2 (se_op od_add ops_dd (g.v 2 (by kernel_rfl)) (se_lst (sa_cons (g.excK0 x_UnknownEnd_value rfl (by kernel_rfl) (T.glo 35 rfl) (sk_cons (g.v 0 (by kernel_rfl)) sk_nil)) (sa_cons (g.excK0 x_SameName_name rfl (by kernel_rfl) (T.glo 37 rfl) (sk_cons (g.v 0 (by kernel_rfl)) sk_nil)) (sa_cons (g.excK0 x_CommonName_name rfl (by kernel_rfl) (T.glo 38 rfl) (sk_cons (g.v 0 (by kernel_rfl)) sk_nil)) sa_nil))))) (by kernel_rfl) (by kernel_rfl) (.inl rfl) (fun _ => rfl))
  (sss_cons (g.set 2 (se_op od_add ops_dd (g.v 2 (by kernel_rfl)) (se_lst (sa_cons (g.excK0 x_OtherNames_other_one rfl (by kernel_rfl) (T.glo 39 rfl) (sk_cons (g.v 1 (by kernel_rfl)) (sk_cons (g.v 0 (by kernel_rfl)) sk_nil))) sa_nil))) (by kernel_rfl) (by kernel_rfl) (.inl rfl) (fun _ => rfl))
  (sss_one (ss_ret (se_op od_add ops_dd (g.v 2 (by kernel_rfl)) (se_lst (sa_cons (g.exc0 TX (by decide) (by kernel_rfl) (T.glo 40 rfl)) (sa_cons (g.exc0 TX (by decide) (by kernel_rfl) (T.glo 41 rfl)) (sa_cons (g.excK0 x_CommandFailed_position rfl (by kernel_rfl) (T.glo 42 rfl) (sk_cons (g.v 0 (by kernel_rfl)) sk_nil)) (sa_cons (g.excK0 x_TooMany_limit_what rfl (by kernel_rfl) (T.glo 44 rfl) (sk_cons (g.v 1 (by kernel_rfl)) (sk_cons (g.v 0 (by kernel_rfl)) sk_nil))) sa_nil))))))))))))))))
section
variable {P : Program} {w : World} {K : PySem.W.Frag} {mg : Str → Option Value} {bs : Heap}
theorem kok__law_by_name (T : Tx fa fn K mg bs) (TX : exAll rows owns tys K = true) (x_InvalidSign_value : ExcK P w K mg bs "InvalidSign" 1 0 ["value"] ["value"] (fun ws us => byIx [0, 1] (ws ++ us))) (x_InvalidPlace_value : ExcK P w K mg bs "InvalidPlace" 1 0 ["value"] ["value"] (fun ws us => byIx [0, 1] (ws ++ us))) (x_InvalidPlaces_value : ExcK P w K mg bs "InvalidPlaces" 1 0 ["value"] ["value"] (fun ws us => byIx [0, 1] (ws ++ us))) (x_InvalidName_value : ExcK P w K mg bs "InvalidName" 1 0 ["value"] ["value"] (fun ws us => byIx [0, 1] (ws ++ us))) (x_InvalidTimes_value : ExcK P w K mg bs "InvalidTimes" 1 0 ["value"] ["value"] (fun ws us => byIx [0, 1] (ws ++ us))) (x_InvalidPin_value : ExcK P w K mg bs "InvalidPin" 1 0 ["value"] ["value"] (fun ws us => byIx [0, 1] (ws ++ us))) (x_InvalidPosition_value : ExcK P w K mg bs "InvalidPosition" 1 0 ["value"] ["value"] (fun ws us => byIx [0, 1] (ws ++ us))) (x_InvalidClaim_value : ExcK P w K mg bs "InvalidClaim" 1 0 ["value"] ["value"] (fun ws us => byIx [0, 1] (ws ++ us))) (x_InvalidBranches_value : ExcK P w K mg bs "InvalidBranches" 1 0 ["value"] ["value"] (fun ws us => byIx [0, 1] (ws ++ us))) (x_InvalidNumber_value : ExcK P w K mg bs "InvalidNumber" 1 0 ["value"] ["value"] (fun ws us => byIx [0, 1] (ws ++ us))) (x_InvalidFacts_position : ExcK P w K mg bs "InvalidFacts" 1 0 ["position"] ["position"] (fun ws us => byIx [0, 1] (ws ++ us))) (x_InvalidNames_position : ExcK P w K mg bs "InvalidNames" 1 0 ["position"] ["position"] (fun ws us => byIx [0, 1] (ws ++ us))) (x_InvalidCommand_value : ExcK P w K mg bs "InvalidCommand" 1 0 ["value"] ["value"] (fun ws us => byIx [0, 1] (ws ++ us))) (x_InvalidPairs_position : ExcK P w K mg bs "InvalidPairs" 1 0 ["position"] ["position"] (fun ws us => byIx [0, 1] (ws ++ us))) (x_InvalidCrowds_position : ExcK P w K mg bs "InvalidCrowds" 1 0 ["position"] ["position"] (fun ws us => byIx [0, 1] (ws ++ us))) (x_InvalidPlan_position : ExcK P w K mg bs "InvalidPlan" 1 0 ["position"] ["position"] (fun ws us => byIx [0, 1] (ws ++ us))) (x_UnknownName_value : ExcK P w K mg bs "UnknownName" 1 0 ["value"] ["value"] (fun ws us => byIx [0, 1] (ws ++ us))) (x_InvalidText_line : ExcK P w K mg bs "InvalidText" 1 0 ["line"] ["line"] (fun ws us => byIx [0, 1] (ws ++ us))) (x_InvalidParents_position : ExcK P w K mg bs "InvalidParents" 1 0 ["position"] ["position"] (fun ws us => byIx [0, 1] (ws ++ us))) (x_CommonName_name : ExcK P w K mg bs "CommonName" 1 0 ["name"] ["name"] (fun ws us => byIx [0, 1] (ws ++ us))) (x_SameName_name : ExcK P w K mg bs "SameName" 1 0 ["name"] ["name"] (fun ws us => byIx [0, 1] (ws ++ us))) (x_UnknownEnd_value : ExcK P w K mg bs "UnknownEnd" 1 0 ["value"] ["value"] (fun ws us => byIx [0, 1] (ws ++ us))) (x_OtherNames_other_one : ExcK P w K mg bs "OtherNames" 1 0 ["other", "one"] ["one", "other"] (fun ws us => byIx [0, 2, 1] (ws ++ us))) (x_TooMany_limit_what : ExcK P w K mg bs "TooMany" 1 0 ["limit", "what"] ["what", "limit"] (fun ws us => byIx [0, 2, 1] (ws ++ us))) (x_CommandFailed_position : ExcK P w K mg bs "CommandFailed" 1 0 ["position"] ["position"] (fun ws us => byIx [0, 1] (ws ++ us))) {n : Nat} {ks : List Str} {gW : List W → List W → List W} (hB : ∀ fd, FunD K "_law_by_name" "_law_by_name" (defArgs (top 44)) (defBody (top 44)) sc__law_by_name [] [] (He.ga K "_law_by_name") fd → Bdg K fd ["_law_some", "_law_more"] n ks gW) : DefKw P w K mg bs "_law_by_name" 3 ["_law_some", "_law_more"] F__law_by_name n ks gW :=
  defOk_of (T.says.def_ 11 rfl) S__law_by_name T.sm ⟨rfl, by decide, by decide⟩ (fun X e1 e2 e3 e4 e5 g => by subst e1 e2 e3 e4 e5; exact b__law_by_name T TX g x_InvalidSign_value x_InvalidPlace_value x_InvalidPlaces_value x_InvalidName_value x_InvalidTimes_value x_InvalidPin_value x_InvalidPosition_value x_InvalidClaim_value x_InvalidBranches_value x_InvalidNumber_value x_InvalidFacts_position x_InvalidNames_position x_InvalidCommand_value x_InvalidPairs_position x_InvalidCrowds_position x_InvalidPlan_position x_UnknownName_value x_InvalidText_line x_InvalidParents_position x_CommonName_name x_SameName_name x_UnknownEnd_value x_OtherNames_other_one x_TooMany_limit_what x_CommandFailed_position) hB
theorem ok__law_by_name (T : Tx fa fn K mg bs) (TX : exAll rows owns tys K = true) (x_InvalidSign_value : ExcK P w K mg bs "InvalidSign" 1 0 ["value"] ["value"] (fun ws us => byIx [0, 1] (ws ++ us))) (x_InvalidPlace_value : ExcK P w K mg bs "InvalidPlace" 1 0 ["value"] ["value"] (fun ws us => byIx [0, 1] (ws ++ us))) (x_InvalidPlaces_value : ExcK P w K mg bs "InvalidPlaces" 1 0 ["value"] ["value"] (fun ws us => byIx [0, 1] (ws ++ us))) (x_InvalidName_value : ExcK P w K mg bs "InvalidName" 1 0 ["value"] ["value"] (fun ws us => byIx [0, 1] (ws ++ us))) (x_InvalidTimes_value : ExcK P w K mg bs "InvalidTimes" 1 0 ["value"] ["value"] (fun ws us => byIx [0, 1] (ws ++ us))) (x_InvalidPin_value : ExcK P w K mg bs "InvalidPin" 1 0 ["value"] ["value"] (fun ws us => byIx [0, 1] (ws ++ us))) (x_InvalidPosition_value : ExcK P w K mg bs "InvalidPosition" 1 0 ["value"] ["value"] (fun ws us => byIx [0, 1] (ws ++ us))) (x_InvalidClaim_value : ExcK P w K mg bs "InvalidClaim" 1 0 ["value"] ["value"] (fun ws us => byIx [0, 1] (ws ++ us))) (x_InvalidBranches_value : ExcK P w K mg bs "InvalidBranches" 1 0 ["value"] ["value"] (fun ws us => byIx [0, 1] (ws ++ us))) (x_InvalidNumber_value : ExcK P w K mg bs "InvalidNumber" 1 0 ["value"] ["value"] (fun ws us => byIx [0, 1] (ws ++ us))) (x_InvalidFacts_position : ExcK P w K mg bs "InvalidFacts" 1 0 ["position"] ["position"] (fun ws us => byIx [0, 1] (ws ++ us))) (x_InvalidNames_position : ExcK P w K mg bs "InvalidNames" 1 0 ["position"] ["position"] (fun ws us => byIx [0, 1] (ws ++ us))) (x_InvalidCommand_value : ExcK P w K mg bs "InvalidCommand" 1 0 ["value"] ["value"] (fun ws us => byIx [0, 1] (ws ++ us))) (x_InvalidPairs_position : ExcK P w K mg bs "InvalidPairs" 1 0 ["position"] ["position"] (fun ws us => byIx [0, 1] (ws ++ us))) (x_InvalidCrowds_position : ExcK P w K mg bs "InvalidCrowds" 1 0 ["position"] ["position"] (fun ws us => byIx [0, 1] (ws ++ us))) (x_InvalidPlan_position : ExcK P w K mg bs "InvalidPlan" 1 0 ["position"] ["position"] (fun ws us => byIx [0, 1] (ws ++ us))) (x_UnknownName_value : ExcK P w K mg bs "UnknownName" 1 0 ["value"] ["value"] (fun ws us => byIx [0, 1] (ws ++ us))) (x_InvalidText_line : ExcK P w K mg bs "InvalidText" 1 0 ["line"] ["line"] (fun ws us => byIx [0, 1] (ws ++ us))) (x_InvalidParents_position : ExcK P w K mg bs "InvalidParents" 1 0 ["position"] ["position"] (fun ws us => byIx [0, 1] (ws ++ us))) (x_CommonName_name : ExcK P w K mg bs "CommonName" 1 0 ["name"] ["name"] (fun ws us => byIx [0, 1] (ws ++ us))) (x_SameName_name : ExcK P w K mg bs "SameName" 1 0 ["name"] ["name"] (fun ws us => byIx [0, 1] (ws ++ us))) (x_UnknownEnd_value : ExcK P w K mg bs "UnknownEnd" 1 0 ["value"] ["value"] (fun ws us => byIx [0, 1] (ws ++ us))) (x_OtherNames_other_one : ExcK P w K mg bs "OtherNames" 1 0 ["other", "one"] ["one", "other"] (fun ws us => byIx [0, 2, 1] (ws ++ us))) (x_TooMany_limit_what : ExcK P w K mg bs "TooMany" 1 0 ["limit", "what"] ["what", "limit"] (fun ws us => byIx [0, 2, 1] (ws ++ us))) (x_CommandFailed_position : ExcK P w K mg bs "CommandFailed" 1 0 ["position"] ["position"] (fun ws us => byIx [0, 1] (ws ++ us))) : DefOk P w K mg bs "_law_by_name" 3 ["_law_some", "_law_more"] F__law_by_name :=
  (kok__law_by_name T TX x_InvalidSign_value x_InvalidPlace_value x_InvalidPlaces_value x_InvalidName_value x_InvalidTimes_value x_InvalidPin_value x_InvalidPosition_value x_InvalidClaim_value x_InvalidBranches_value x_InvalidNumber_value x_InvalidFacts_position x_InvalidNames_position x_InvalidCommand_value x_InvalidPairs_position x_InvalidCrowds_position x_InvalidPlan_position x_UnknownName_value x_InvalidText_line x_InvalidParents_position x_CommonName_name x_SameName_name x_UnknownEnd_value x_OtherNames_other_one x_TooMany_limit_what x_CommandFailed_position fun fd F => bdg_pos F fun _ _ _ _ _ _ us hl => match us, hl with | [_, _], _ => rfl).pos
end
abbrev sc__law_told : Scope := defScope (top 43)
def N__law_told : List Str := ["_law_made", "_law_found", "_law_e"]
theorem S__law_told : FnScope N__law_told ["_law_made"] sc__law_told := ⟨rfl, rfl, rfl, by decide +kernel, rfl, by decide +kernel, by decide +kernel⟩
def m__law_told : SM := sSeq (sSet 1 (mOp fAdd (mOp fAdd (mLc (iAny (mSl (mVar 0) oNone (oSome (mC (.int 11))))) (.one 2) (tYesM) (mUn (fAt rows "value") (mVar 2)) [2]) (mLc (iAny (mSl (mVar 0) (oSome (mC (.int 11))) (oSome (mC (.int 17))))) (.one 2) (tYesM) (mUn (fAt rows "position") (mVar 2)) [2])) (mLst (mCons (mUn (fAt rows "line") (mOp fIx (mVar 0) (mC (.int 17)))) (mNil)))))
  (sSeq (sSet 1 (mOp fAdd (mVar 1) (mLst (mCons (mUn (fAt rows "value") (mOp fIx (mVar 0) (mC (.int 18)))) (mCons (mUn (fAt rows "value") (mOp fIx (mVar 0) (mC (.int 19)))) (mCons (mUn (fAt rows "name") (mOp fIx (mVar 0) (mC (.int 20)))) (mCons (mUn (fAt rows "name") (mOp fIx (mVar 0) (mC (.int 21)))) (mCons (mUn (fAt rows "one") (mOp fIx (mVar 0) (mC (.int 22)))) (mCons (mUn (fAt rows "other") (mOp fIx (mVar 0) (mC (.int 22)))) (mNil))))))))))
  (sRet (mOp fAdd (mVar 1) (mLst (mCons (mUn (fAt rows "position") (mOp fIx (mVar 0) (mC (.int 25)))) (mCons (mUn (fAt rows "what") (mOp fIx (mVar 0) (mC (.int 26)))) (mCons (mUn (fAt rows "limit") (mOp fIx (mVar 0) (mC (.int 26)))) (mNil))))))))
def F__law_told : FM := mFn N__law_told m__law_told
theorem b__law_told {X : Cx} (T : Tx fa fn X.K X.mg X.base) (TX : exAll rows owns tys X.K = true) (gF : GoodF X N__law_told sc__law_told 0) : SSs X (defBody (top 43)) m__law_told := by
  have g := gF.toGood
  exact (sss_cons (g.set 1 (se_op od_add ops_dd (se_op od_add ops_dd (g.lc [("_law_e", 2)] (.one 2) (si_any (se_sl (g.v 0 (by kernel_rfl)) so_none (so_some se_int))) (blkOk_by (by decide +kernel)) (fun _ _ _ _ _ g1 => ⟨(g1.ct1 2 (by kernel_rfl) (by kernel_rfl) (by first | exact .inl rfl | exact .inr (by kernel_rfl))), sts_nil, (se_at TX (g1.v 2 (by kernel_rfl)))⟩) rfl (fun _ _ => rfl)) (g.lc [("_law_e", 2)] (.one 2) (si_any (se_sl (g.v 0 (by kernel_rfl)) (so_some se_int) (so_some se_int))) (blkOk_by (by decide +kernel)) (fun _ _ _ _ _ g2 => ⟨(g2.ct1 2 (by kernel_rfl) (by kernel_rfl) (by first | exact .inl rfl | exact .inr (by kernel_rfl))), sts_nil, (se_at TX (g2.v 2 (by kernel_rfl)))⟩) rfl (fun _ _ => rfl))) (se_lst (sa_cons (se_at TX (se_ix (od_ix g.rm) ops_dd (g.v 0 (by kernel_rfl)) se_int (fun _ _ => rfl))) sa_nil))) (by kernel_rfl) (by kernel_rfl) (.inl rfl) (fun _ => rfl))
  (sss_cons (g.set 1 (se_op od_add ops_dd (g.v 1 (by kernel_rfl)) (se_lst (sa_cons (se_at TX (se_ix (od_ix g.rm) ops_dd (g.v 0 (by kernel_rfl)) se_int (fun _ _ => rfl))) (sa_cons (se_at TX (se_ix (od_ix g.rm) ops_dd (g.v 0 (by kernel_rfl)) se_int (fun _ _ => rfl))) (sa_cons (se_at TX (se_ix (od_ix g.rm) ops_dd (g.v 0 (by kernel_rfl)) se_int (fun _ _ => rfl))) (sa_cons (se_at TX (se_ix (od_ix g.rm) ops_dd (g.v 0 (by kernel_rfl)) se_int (fun _ _ => rfl))) (sa_cons (se_at TX (se_ix (od_ix g.rm) ops_dd (g.v 0 (by kernel_rfl)) se_int (fun _ _ => rfl))) (sa_cons (se_at TX (se_ix (od_ix g.rm) ops_dd (g.v 0 (by kernel_rfl)) se_int (fun _ _ => rfl))) sa_nil)))))))) (by kernel_rfl) (by kernel_rfl) (.inl rfl) (fun _ => rfl))
  (sss_one (ss_ret (se_op od_add ops_dd (g.v 1 (by kernel_rfl)) (se_lst (sa_cons (se_at TX (se_ix (od_ix g.rm) ops_dd (g.v 0 (by kernel_rfl)) se_int (fun _ _ => rfl))) (sa_cons (se_at TX (se_ix (od_ix g.rm) ops_dd (g.v 0 (by kernel_rfl)) se_int (fun _ _ => rfl))) (sa_cons (se_at TX (se_ix (od_ix g.rm) ops_dd (g.v 0 (by kernel_rfl)) se_int (fun _ _ => rfl))) sa_nil)))))))))
section
variable {P : Program} {w : World} {K : PySem.W.Frag} {mg : Str → Option Value} {bs : Heap}
theorem kok__law_told (T : Tx fa fn K mg bs) (TX : exAll rows owns tys K = true) {n : Nat} {ks : List Str} {gW : List W → List W → List W} (hB : ∀ fd, FunD K "_law_told" "_law_told" (defArgs (top 43)) (defBody (top 43)) sc__law_told [] [] (He.ga K "_law_told") fd → Bdg K fd ["_law_made"] n ks gW) : DefKw P w K mg bs "_law_told" 1 ["_law_made"] F__law_told n ks gW :=
  defOk_of (T.says.def_ 10 rfl) S__law_told T.sm ⟨rfl, by decide, by decide⟩ (fun X e1 e2 e3 e4 e5 g => by subst e1 e2 e3 e4 e5; exact b__law_told T TX g ) hB
theorem ok__law_told (T : Tx fa fn K mg bs) (TX : exAll rows owns tys K = true) : DefOk P w K mg bs "_law_told" 1 ["_law_made"] F__law_told :=
  (kok__law_told T TX  fun fd F => bdg_pos F fun _ _ _ _ _ _ us hl => match us, hl with | [_], _ => rfl).pos
end
abbrev sc__law_right : Scope := defScope (top 45)
def N__law_right : List Str := ["_law_pot_here", "_law_some", "_law_more", "_law_due", "_law_made", "_law_told_here", "_law_near", "_law_mate"]
theorem S__law_right : FnScope N__law_right ["_law_pot_here"] sc__law_right := ⟨rfl, rfl, rfl, by decide +kernel, rfl, by decide +kernel, by decide +kernel⟩
def m__law_right : SM := sSeq (sPar 1 2 (mCons (mDef 1 0 (fun ws _ => ws) F__law_thing (mCons (mVar 0) (mNil)) mNil) (mCons (mDef 1 0 (fun ws _ => ws) F__law_thing (mCons (mVar 0) (mNil)) mNil) (mNil))))
  (sSeq (sSet 3 (mOp fAdd (mOp fMul (mLst (mCons (mVar 1) (mNil))) (mC (.int 23))) (mLst (mCons (mVar 2) (mCons (mVar 1) (mCons (mVar 1) (mCons (mVar 2) (mNil))))))))
  (sSeq (sFor (iAny (mLst (mCons (mOp fAdd (mDef 1 0 (fun ws _ => ws) F__law_pins (mCons (mVar 1) (mNil)) mNil) (mDef 2 0 (fun ws _ => ws) F__law_rest (mCons (mVar 1) (mCons (mVar 2) (mNil))) mNil)) (mCons (mDef 2 0 (fun ws _ => ws) F__law_by_name (mCons (mVar 1) (mCons (mVar 2) (mNil))) mNil) (mNil))))) (gSet 4) (sSeq (sSet 5 (mDef 1 0 (fun ws _ => ws) F__law_told (mCons (mVar 4) (mNil)) mNil))
  (sIf (mOrT (mTest (mOp fNe (mCa fLen (mCons (mVar 5) (mNil))) (mCa fLen (mCons (mVar 3) (mNil))))) (mNotT (mTest (mCa fAll (mCons (mLc (iZipM (mVar 5) (mVar 3)) (.tup [6, 7]) (tYesM) (mOp gEq (mVar 6) (mVar 7)) [6, 7]) (mNil)))))) (sRet (mC (.bl false))) (sNil))))
  (sRet (mDef 2 0 (fun ws _ => ws) F__law_classes_right (mCons (mVar 1) (mCons (mVar 2) (mNil))) mNil))))
def F__law_right : FM := mFn N__law_right m__law_right
theorem b__law_right {X : Cx} (T : Tx fa fn X.K X.mg X.base) (TX : exAll rows owns tys X.K = true) (gF : GoodF X N__law_right sc__law_right 4) (d__law_thing : DefOk X.prog X.w X.K X.mg X.base "_law_thing" 3 ["_law_pot_here"] F__law_thing) (d__law_by_name : DefOk X.prog X.w X.K X.mg X.base "_law_by_name" 3 ["_law_some", "_law_more"] F__law_by_name) (d__law_pins : DefOk X.prog X.w X.K X.mg X.base "_law_pins" 3 ["_law_some"] F__law_pins) (d__law_rest : DefOk X.prog X.w X.K X.mg X.base "_law_rest" 3 ["_law_some", "_law_more"] F__law_rest) (d__law_told : DefOk X.prog X.w X.K X.mg X.base "_law_told" 1 ["_law_made"] F__law_told) (d__law_classes_right : DefOk X.prog X.w X.K X.mg X.base "_law_classes_right" 4 ["_law_some", "_law_more"] F__law_classes_right) : SSs X (defBody (top 45)) m__law_right := by
  have g := gF.toGood
  exact (sss_cons (g.par 1 2 (sa_cons (g.callP d__law_thing rfl (by kernel_rfl) (T.glo 3 rfl) (sa_cons (g.v 0 (by kernel_rfl)) sa_nil)) (sa_cons (g.callP d__law_thing rfl (by kernel_rfl) (T.glo 3 rfl) (sa_cons (g.v 0 (by kernel_rfl)) sa_nil)) sa_nil)) (by kernel_rfl) (by kernel_rfl) (by decide) (by kernel_rfl) (by kernel_rfl) (fun _ => by kernel_rfl) (fun _ => rfl))
  (sss_cons (g.set 3 (se_op od_add ops_dd (se_op od_mul ops_dd (se_lst (sa_cons (g.v 1 (by kernel_rfl)) sa_nil)) se_int) (se_lst (sa_cons (g.v 2 (by kernel_rfl)) (sa_cons (g.v 1 (by kernel_rfl)) (sa_cons (g.v 1 (by kernel_rfl)) (sa_cons (g.v 2 (by kernel_rfl)) sa_nil)))))) (by kernel_rfl) (by kernel_rfl) (.inl rfl) (fun _ => rfl))
  (sss_cons (ss_for gF.pass g.calm (si_any (se_lst (sa_cons (se_op od_add ops_dd (g.callP d__law_pins rfl (by kernel_rfl) (T.glo 4 rfl) (sa_cons (g.v 1 (by kernel_rfl)) sa_nil)) (g.callP d__law_rest rfl (by kernel_rfl) (T.glo 6 rfl) (sa_cons (g.v 1 (by kernel_rfl)) (sa_cons (g.v 2 (by kernel_rfl)) sa_nil)))) (sa_cons (g.callP d__law_by_name rfl (by kernel_rfl) (T.glo 11 rfl) (sa_cons (g.v 1 (by kernel_rfl)) (sa_cons (g.v 2 (by kernel_rfl)) sa_nil))) sa_nil)))) (g.tg 4 (by kernel_rfl) (by kernel_rfl) (.inl rfl)) (sss_cons (g.set 5 (g.callP d__law_told rfl (by kernel_rfl) (T.glo 10 rfl) (sa_cons (g.v 4 (by kernel_rfl)) sa_nil)) (by kernel_rfl) (by kernel_rfl) (.inl rfl) (fun _ => rfl))
  (sss_one (ss_if (SW.st (sw_or (st_cmp (od_ne g.rm) ops_dd (se_callB cd_len cas_dd (g.gl (by kernel_rfl)) (T.free 62 rfl) bt_len (sa_cons (g.v 5 (by kernel_rfl)) sa_nil)) (se_callB cd_len cas_dd (g.gl (by kernel_rfl)) (T.free 62 rfl) bt_len (sa_cons (g.v 3 (by kernel_rfl)) sa_nil)) (nomark _)) (sw_or1 (st_not (st_val (se_callB (cd_all g.rm) cas_dd (g.gl (by kernel_rfl)) (T.free 57 rfl) bt_all (sa_cons (g.lc [("_law_near", 6), ("_law_mate", 7)] (.tup [6, 7]) (si_zip (g.gl (by kernel_rfl)) (T.free 66 rfl) (g.v 5 (by kernel_rfl)) (g.v 3 (by kernel_rfl))) (blkOk_by (by decide +kernel)) (fun _ _ _ _ _ g1 => ⟨(g1.ctT (g1.cts 6 (by kernel_rfl) (by kernel_rfl) (by first | exact .inl rfl | exact .inr (by kernel_rfl)) (g1.cts 7 (by kernel_rfl) (by kernel_rfl) (by first | exact .inl rfl | exact .inr (by kernel_rfl)) g1.cts0))), sts_nil, (se_cmp (od_geq g1.rm) ops_dd (g1.v 6 (by kernel_rfl)) (g1.v 7 (by kernel_rfl)) (nomark _))⟩) rfl (fun _ _ => rfl)) sa_nil))))))) (sss_one (ss_ret se_bl)) sss_nil))) (fun _ => rfl))
  (sss_one (ss_ret (g.callP d__law_classes_right rfl (by kernel_rfl) (T.glo 9 rfl) (sa_cons (g.v 1 (by kernel_rfl)) (sa_cons (g.v 2 (by kernel_rfl)) sa_nil))))))))
section
variable {P : Program} {w : World} {K : PySem.W.Frag} {mg : Str → Option Value} {bs : Heap}
theorem kok__law_right (T : Tx fa fn K mg bs) (TX : exAll rows owns tys K = true) (d__law_thing : DefOk P w K mg bs "_law_thing" 3 ["_law_pot_here"] F__law_thing) (d__law_by_name : DefOk P w K mg bs "_law_by_name" 3 ["_law_some", "_law_more"] F__law_by_name) (d__law_pins : DefOk P w K mg bs "_law_pins" 3 ["_law_some"] F__law_pins) (d__law_rest : DefOk P w K mg bs "_law_rest" 3 ["_law_some", "_law_more"] F__law_rest) (d__law_told : DefOk P w K mg bs "_law_told" 1 ["_law_made"] F__law_told) (d__law_classes_right : DefOk P w K mg bs "_law_classes_right" 4 ["_law_some", "_law_more"] F__law_classes_right) {n : Nat} {ks : List Str} {gW : List W → List W → List W} (hB : ∀ fd, FunD K "_law_right" "_law_right" (defArgs (top 45)) (defBody (top 45)) sc__law_right [] [] (He.ga K "_law_right") fd → Bdg K fd ["_law_pot_here"] n ks gW) : DefKw P w K mg bs "_law_right" 5 ["_law_pot_here"] F__law_right n ks gW :=
  defOk_of (T.says.def_ 12 rfl) S__law_right T.sm ⟨rfl, by decide, by decide⟩ (fun X e1 e2 e3 e4 e5 g => by subst e1 e2 e3 e4 e5; exact b__law_right T TX g d__law_thing d__law_by_name d__law_pins d__law_rest d__law_told d__law_classes_right) hB
theorem ok__law_right (T : Tx fa fn K mg bs) (TX : exAll rows owns tys K = true) (d__law_thing : DefOk P w K mg bs "_law_thing" 3 ["_law_pot_here"] F__law_thing) (d__law_by_name : DefOk P w K mg bs "_law_by_name" 3 ["_law_some", "_law_more"] F__law_by_name) (d__law_pins : DefOk P w K mg bs "_law_pins" 3 ["_law_some"] F__law_pins) (d__law_rest : DefOk P w K mg bs "_law_rest" 3 ["_law_some", "_law_more"] F__law_rest) (d__law_told : DefOk P w K mg bs "_law_told" 1 ["_law_made"] F__law_told) (d__law_classes_right : DefOk P w K mg bs "_law_classes_right" 4 ["_law_some", "_law_more"] F__law_classes_right) : DefOk P w K mg bs "_law_right" 5 ["_law_pot_here"] F__law_right :=
  (kok__law_right T TX d__law_thing d__law_by_name d__law_pins d__law_rest d__law_told d__law_classes_right fun fd F => bdg_pos F fun _ _ _ _ _ _ us hl => match us, hl with | [_], _ => rfl).pos
end
abbrev sc__law_pot : Scope := defScope (top 33)
def N__law_pot : List Str := ["_law_script", "_law_at", "_law_cell"]
theorem S__law_pot : FnScope N__law_pot ["_law_script", "_law_at"] sc__law_pot := ⟨rfl, rfl, rfl, by decide +kernel, rfl, by decide +kernel, by decide +kernel⟩
def m__law_pot : SM := sSeq (sSet 2 (mOp fAdd (mOp fMul (mC (.int 29)) (mVar 1)) (mC (.int 19))))
  (sSeq (sIf (mTest (mOp fLt (mVar 1) (mCa fLen (mCons (mVar 0) (mNil))))) (sSet 2 (mCa fAbs (mCons (mOp fIx (mVar 0) (mVar 1)) (mNil)))) (sNil))
  (sRet (mLstH (mCons (mCa fMax (mCons (mC (.int 0)) (mCons (mOp fSub (mVar 2) (mOp fPow (mC (.int 10)) (mC (.int 18)))) (mNil)))) (mCons (mOp fAdd (mOp fMod (mOp fMul (mCa fInt (mCons (mOp fAdd (mOp fMod (mCa fInt (mCons (mVar 2) (mNil))) (mC (.int 2147483549))) (mC (.int 23))) (mNil))) (mOp fPow (mOp fAdd (mOp fMul (mC (.int 2)) (mVar 1)) (mC (.int 9))) (mC (.int 3)))) (mC (.int 2147483477))) (mC (.int 1))) (mNil))))))
def F__law_pot : FM := mFn N__law_pot m__law_pot
theorem b__law_pot {X : Cx} (T : Tx fa fn X.K X.mg X.base) (TX : exAll rows owns tys X.K = true) (gF : GoodF X N__law_pot sc__law_pot 0) : SSs X (defBody (top 33)) m__law_pot := by
  have g := gF.toGood
  exact (sss_cons (g.set 2 (se_op od_add ops_dd (se_op od_mul ops_dd se_int (g.v 1 (by kernel_rfl))) se_int) (by kernel_rfl) (by kernel_rfl) (.inl rfl) (fun _ => rfl))
  (sss_cons (ss_if (st_cmp od_lt ops_dd (g.v 1 (by kernel_rfl)) (se_callB cd_len cas_dd (g.gl (by kernel_rfl)) (T.free 62 rfl) bt_len (sa_cons (g.v 0 (by kernel_rfl)) sa_nil)) (nomark _)) (sss_one (g.set 2 (se_callB cd_abs cas_dd (g.gl (by kernel_rfl)) (T.free 56 rfl) bt_abs (sa_cons (se_ix (od_ix g.rm) ops_dd (g.v 0 (by kernel_rfl)) (g.v 1 (by kernel_rfl)) (fun _ _ => rfl)) sa_nil)) (by kernel_rfl) (by kernel_rfl) (.inl rfl) (fun _ => rfl))) sss_nil)
  (sss_one (ss_ret (se_lstH (sa_cons (se_callB (cd_max g.rm) cas_dd (g.gl (by kernel_rfl)) (T.free 63 rfl) bt_max (sa_cons se_int (sa_cons (se_op od_sub ops_dd (g.v 2 (by kernel_rfl)) (se_op od_pow ops_dd se_int se_int)) sa_nil))) (sa_cons (se_op od_add ops_dd (se_op od_mod ops_dd (se_op od_mul ops_dd (se_callTy cd_int cas_dd (g.gl (by kernel_rfl)) (T.free 60 rfl) bt_int (sa_cons (se_op od_add ops_dd (se_op od_mod ops_dd (se_callTy cd_int cas_dd (g.gl (by kernel_rfl)) (T.free 60 rfl) bt_int (sa_cons (g.v 2 (by kernel_rfl)) sa_nil)) se_int) se_int) sa_nil)) (se_op od_pow ops_dd (se_op od_add ops_dd (se_op od_mul ops_dd se_int (g.v 1 (by kernel_rfl))) se_int) se_int)) se_int) se_int) sa_nil)))))))
section
variable {P : Program} {w : World} {K : PySem.W.Frag} {mg : Str → Option Value} {bs : Heap}
theorem kok__law_pot (T : Tx fa fn K mg bs) (TX : exAll rows owns tys K = true) {n : Nat} {ks : List Str} {gW : List W → List W → List W} (hB : ∀ fd, FunD K "_law_pot" "_law_pot" (defArgs (top 33)) (defBody (top 33)) sc__law_pot [] [] (He.ga K "_law_pot") fd → Bdg K fd ["_law_script", "_law_at"] n ks gW) : DefKw P w K mg bs "_law_pot" 1 ["_law_script", "_law_at"] F__law_pot n ks gW :=
  defOk_of (T.says.def_ 0 rfl) S__law_pot T.sm ⟨rfl, by decide, by decide⟩ (fun X e1 e2 e3 e4 e5 g => by subst e1 e2 e3 e4 e5; exact b__law_pot T TX g ) hB
theorem ok__law_pot (T : Tx fa fn K mg bs) (TX : exAll rows owns tys K = true) : DefOk P w K mg bs "_law_pot" 1 ["_law_script", "_law_at"] F__law_pot :=
  (kok__law_pot T TX  fun fd F => bdg_pos F fun _ _ _ _ _ _ us hl => match us, hl with | [_, _], _ => rfl).pos
end
abbrev sc_law : Scope := defScope (top 46)
def N_law : List Str := ["_law_script", "_law_at"]
theorem S_law : FnScope N_law ["_law_script"] sc_law := ⟨rfl, rfl, rfl, by decide +kernel, rfl, by decide +kernel, by decide +kernel⟩
def m_law : SM := sRet (mCa fAll (mCons (mLc (iRange1 (mCa fMax (mCons (mC (.int 1)) (mCons (mCa fMin (mCons (mCa fLen (mCons (mVar 0) (mNil))) (mCons (mC (.int 4)) (mNil)))) (mNil))))) (.one 1) (tYesM) (mDef 1 0 (fun ws _ => ws) F__law_right (mCons (mDef 2 0 (fun ws _ => ws) F__law_pot (mCons (mVar 0) (mCons (mVar 1) (mNil))) mNil) (mNil)) mNil) [1]) (mNil)))
def F_law : FM := mFn N_law m_law
theorem b_law {X : Cx} (T : Tx fa fn X.K X.mg X.base) (TX : exAll rows owns tys X.K = true) (gF : GoodF X N_law sc_law 5) (d__law_right : DefOk X.prog X.w X.K X.mg X.base "_law_right" 5 ["_law_pot_here"] F__law_right) (d__law_pot : DefOk X.prog X.w X.K X.mg X.base "_law_pot" 1 ["_law_script", "_law_at"] F__law_pot) : SSs X (defBody (top 46)) m_law := by
  have g := gF.toGood
  exact (sss_one (ss_ret (se_callB (cd_all g.rm) cas_dd (g.gl (by kernel_rfl)) (T.free 57 rfl) bt_all (sa_cons (g.lc [("_law_at", 1)] (.one 1) (si_range1 (g.gl (by kernel_rfl)) (T.free 65 rfl) (se_callB (cd_max g.rm) cas_dd (g.gl (by kernel_rfl)) (T.free 63 rfl) bt_max (sa_cons se_int (sa_cons (se_callB (cd_min g.rm) cas_dd (g.gl (by kernel_rfl)) (T.free 64 rfl) bt_min (sa_cons (se_callB cd_len cas_dd (g.gl (by kernel_rfl)) (T.free 62 rfl) bt_len (sa_cons (g.v 0 (by kernel_rfl)) sa_nil)) (sa_cons se_int sa_nil))) sa_nil)))) (blkOk_by (by decide +kernel)) (fun _ _ _ _ _ g1 => ⟨(g1.ct1 1 (by kernel_rfl) (by kernel_rfl) (by first | exact .inl rfl | exact .inr (by kernel_rfl))), sts_nil, (g1.callP d__law_right rfl (by kernel_rfl) (T.glo 12 rfl) (sa_cons (g1.callP d__law_pot rfl (by kernel_rfl) (T.glo 0 rfl) (sa_cons (g1.v 0 (by kernel_rfl)) (sa_cons (g1.v 1 (by kernel_rfl)) sa_nil))) sa_nil))⟩) rfl (fun _ _ => rfl)) sa_nil))))
section
variable {P : Program} {w : World} {K : PySem.W.Frag} {mg : Str → Option Value} {bs : Heap}
theorem kok_law (T : Tx fa fn K mg bs) (TX : exAll rows owns tys K = true) (d__law_right : DefOk P w K mg bs "_law_right" 5 ["_law_pot_here"] F__law_right) (d__law_pot : DefOk P w K mg bs "_law_pot" 1 ["_law_script", "_law_at"] F__law_pot) {n : Nat} {ks : List Str} {gW : List W → List W → List W} (hB : ∀ fd, FunD K "law" "law" (defArgs (top 46)) (defBody (top 46)) sc_law [] [] (He.ga K "law") fd → Bdg K fd ["_law_script"] n ks gW) : DefKw P w K mg bs "law" 6 ["_law_script"] F_law n ks gW :=
  defOk_of (T.says.def_ 13 rfl) S_law T.sm ⟨rfl, by decide, by decide⟩ (fun X e1 e2 e3 e4 e5 g => by subst e1 e2 e3 e4 e5; exact b_law T TX g d__law_right d__law_pot) hB
theorem ok_law (T : Tx fa fn K mg bs) (TX : exAll rows owns tys K = true) (d__law_right : DefOk P w K mg bs "_law_right" 5 ["_law_pot_here"] F__law_right) (d__law_pot : DefOk P w K mg bs "_law_pot" 1 ["_law_script", "_law_at"] F__law_pot) : DefOk P w K mg bs "law" 6 ["_law_script"] F_law :=
  (kok_law T TX d__law_right d__law_pot fun fd F => bdg_pos F fun _ _ _ _ _ _ us hl => match us, hl with | [_], _ => rfl).pos
end
theorem ok_lawG {P : Program} {w : World} {K : PySem.W.Frag} {mg : Str → Option Value} {bs : Heap} (T : Tx fa fn K mg bs) (TX : exAll rows owns tys K = true) {fd : FuncData} (F : FunD K "law" "law" (defArgs (top 46)) (defBody (top 46)) sc_law [] [] (He.ga K "law") fd) : FnG P w K mg bs 6 (He.ga K "law") fd ["_law_script"] (spM K 1 F_law) := by
  have x_InvalidPosition := x_InvalidPosition (P := P) (w := w) (mg := mg) (bs := bs) T TX
  have x_InvalidSign := x_InvalidSign (P := P) (w := w) (mg := mg) (bs := bs) T TX
  have x_InvalidPlace := x_InvalidPlace (P := P) (w := w) (mg := mg) (bs := bs) T TX
  have x_InvalidPlaces := x_InvalidPlaces (P := P) (w := w) (mg := mg) (bs := bs) T TX
  have x_InvalidName := x_InvalidName (P := P) (w := w) (mg := mg) (bs := bs) T TX
  have x_InvalidBranches := x_InvalidBranches (P := P) (w := w) (mg := mg) (bs := bs) T TX
  have x_InvalidNumber := x_InvalidNumber (P := P) (w := w) (mg := mg) (bs := bs) T TX
  have x_InvalidTimes := x_InvalidTimes (P := P) (w := w) (mg := mg) (bs := bs) T TX
  have x_InvalidPin := x_InvalidPin (P := P) (w := w) (mg := mg) (bs := bs) T TX
  have x_InvalidFacts := x_InvalidFacts (P := P) (w := w) (mg := mg) (bs := bs) T TX
  have x_InvalidNames := x_InvalidNames (P := P) (w := w) (mg := mg) (bs := bs) T TX
  have x_InvalidCommand := x_InvalidCommand (P := P) (w := w) (mg := mg) (bs := bs) T TX
  have x_InvalidClaim := x_InvalidClaim (P := P) (w := w) (mg := mg) (bs := bs) T TX
  have x_InvalidText := x_InvalidText (P := P) (w := w) (mg := mg) (bs := bs) T TX
  have x_InvalidParents := x_InvalidParents (P := P) (w := w) (mg := mg) (bs := bs) T TX
  have x_InvalidPairs := x_InvalidPairs (P := P) (w := w) (mg := mg) (bs := bs) T TX
  have x_InvalidCrowds := x_InvalidCrowds (P := P) (w := w) (mg := mg) (bs := bs) T TX
  have x_InvalidPlan := x_InvalidPlan (P := P) (w := w) (mg := mg) (bs := bs) T TX
  have x_OtherNames := x_OtherNames (P := P) (w := w) (mg := mg) (bs := bs) T TX
  have x_CommonName := x_CommonName (P := P) (w := w) (mg := mg) (bs := bs) T TX
  have x_SameName := x_SameName (P := P) (w := w) (mg := mg) (bs := bs) T TX
  have x_UnknownEnd := x_UnknownEnd (P := P) (w := w) (mg := mg) (bs := bs) T TX
  have x_UnknownName := x_UnknownName (P := P) (w := w) (mg := mg) (bs := bs) T TX
  have x_TooMany := x_TooMany (P := P) (w := w) (mg := mg) (bs := bs) T TX
  have x_CommandFailed := x_CommandFailed (P := P) (w := w) (mg := mg) (bs := bs) T TX
  have x_InvalidSign_value := x_InvalidSign_value (P := P) (w := w) (mg := mg) (bs := bs) T TX
  have x_InvalidPlace_value := x_InvalidPlace_value (P := P) (w := w) (mg := mg) (bs := bs) T TX
  have x_InvalidPlaces_value := x_InvalidPlaces_value (P := P) (w := w) (mg := mg) (bs := bs) T TX
  have x_InvalidName_value := x_InvalidName_value (P := P) (w := w) (mg := mg) (bs := bs) T TX
  have x_InvalidTimes_value := x_InvalidTimes_value (P := P) (w := w) (mg := mg) (bs := bs) T TX
  have x_InvalidPin_value := x_InvalidPin_value (P := P) (w := w) (mg := mg) (bs := bs) T TX
  have x_InvalidPosition_value := x_InvalidPosition_value (P := P) (w := w) (mg := mg) (bs := bs) T TX
  have x_InvalidClaim_value := x_InvalidClaim_value (P := P) (w := w) (mg := mg) (bs := bs) T TX
  have x_InvalidBranches_value := x_InvalidBranches_value (P := P) (w := w) (mg := mg) (bs := bs) T TX
  have x_InvalidNumber_value := x_InvalidNumber_value (P := P) (w := w) (mg := mg) (bs := bs) T TX
  have x_InvalidFacts_position := x_InvalidFacts_position (P := P) (w := w) (mg := mg) (bs := bs) T TX
  have x_InvalidNames_position := x_InvalidNames_position (P := P) (w := w) (mg := mg) (bs := bs) T TX
  have x_InvalidCommand_value := x_InvalidCommand_value (P := P) (w := w) (mg := mg) (bs := bs) T TX
  have x_InvalidPairs_position := x_InvalidPairs_position (P := P) (w := w) (mg := mg) (bs := bs) T TX
  have x_InvalidCrowds_position := x_InvalidCrowds_position (P := P) (w := w) (mg := mg) (bs := bs) T TX
  have x_InvalidPlan_position := x_InvalidPlan_position (P := P) (w := w) (mg := mg) (bs := bs) T TX
  have x_UnknownName_value := x_UnknownName_value (P := P) (w := w) (mg := mg) (bs := bs) T TX
  have x_InvalidText_line := x_InvalidText_line (P := P) (w := w) (mg := mg) (bs := bs) T TX
  have x_InvalidParents_position := x_InvalidParents_position (P := P) (w := w) (mg := mg) (bs := bs) T TX
  have x_CommonName_name := x_CommonName_name (P := P) (w := w) (mg := mg) (bs := bs) T TX
  have x_SameName_name := x_SameName_name (P := P) (w := w) (mg := mg) (bs := bs) T TX
  have x_UnknownEnd_value := x_UnknownEnd_value (P := P) (w := w) (mg := mg) (bs := bs) T TX
  have x_OtherNames_other_one := x_OtherNames_other_one (P := P) (w := w) (mg := mg) (bs := bs) T TX
  have x_TooMany_limit_what := x_TooMany_limit_what (P := P) (w := w) (mg := mg) (bs := bs) T TX
  have x_CommandFailed_position := x_CommandFailed_position (P := P) (w := w) (mg := mg) (bs := bs) T TX
  have d__law_pins := ok__law_pins (P := P) (w := w) T TX x_InvalidPosition x_InvalidSign x_InvalidPlace x_InvalidPlaces x_InvalidName x_InvalidBranches x_InvalidNumber x_InvalidTimes x_InvalidPin x_InvalidFacts x_InvalidNames x_InvalidCommand x_InvalidClaim x_InvalidText x_InvalidParents x_InvalidPairs x_InvalidCrowds x_InvalidPlan
  have d__law_rest := ok__law_rest (P := P) (w := w) T TX x_OtherNames x_CommonName x_SameName x_UnknownEnd x_UnknownName x_TooMany x_CommandFailed
  have d__law_bases := ok__law_bases (P := P) (w := w) T TX 
  have d__law_which_pin := ok__law_which_pin (P := P) (w := w) T TX 
  have d__law_which_rest := ok__law_which_rest (P := P) (w := w) T TX 
  have d__law_classes_right := ok__law_classes_right (P := P) (w := w) T TX d__law_pins d__law_rest d__law_which_pin d__law_which_rest d__law_bases
  have d__law_draw := ok__law_draw (P := P) (w := w) T TX 
  have d__law_pick := ok__law_pick (P := P) (w := w) T TX d__law_draw
  have d__law_thing := ok__law_thing (P := P) (w := w) T TX d__law_draw d__law_pick
  have d__law_by_name := ok__law_by_name (P := P) (w := w) T TX x_InvalidSign_value x_InvalidPlace_value x_InvalidPlaces_value x_InvalidName_value x_InvalidTimes_value x_InvalidPin_value x_InvalidPosition_value x_InvalidClaim_value x_InvalidBranches_value x_InvalidNumber_value x_InvalidFacts_position x_InvalidNames_position x_InvalidCommand_value x_InvalidPairs_position x_InvalidCrowds_position x_InvalidPlan_position x_UnknownName_value x_InvalidText_line x_InvalidParents_position x_CommonName_name x_SameName_name x_UnknownEnd_value x_OtherNames_other_one x_TooMany_limit_what x_CommandFailed_position
  have d__law_told := ok__law_told (P := P) (w := w) T TX 
  have d__law_right := ok__law_right (P := P) (w := w) T TX d__law_thing d__law_by_name d__law_pins d__law_rest d__law_told d__law_classes_right
  have d__law_pot := ok__law_pot (P := P) (w := w) T TX 
  exact def_fnG F S_law T.sm fun X e1 e2 e3 e4 e5 g => by subst e1 e2 e3 e4 e5; exact b_law T TX g d__law_right d__law_pot
end Lw
set_option maxHeartbeats 4000000
namespace Lw
open PySem PySem.Spec PyProof.Rows L2 Dm
abbrev PP : Int := 2147483587
theorem hDraw : DrawOk PP F__law_draw := fun h hn h2 => draw_ok (c1 := 48271) (c2 := 12253) (q := 2147483549) (t := 23) (N := N__law_draw) rfl (by decide +kernel) (by decide) (by decide) (by decide) (by decide) (by decide +kernel) h hn h2
theorem hPot : PotOk PP F__law_pot := fun h0 h1 => pot_ok (u := 29) (v := 19) (p := 2147483549) (w := 23) (r := 2) (s := 9) (q := 2147483477) (N := N__law_pot) rfl (by decide) (by decide) (by decide) (by decide) (by decide) (by decide) (by decide) (by decide) (by decide) (by decide) (by decide) (by decide) h0 h1
theorem dr {m : Mem} {k : Nat} (n : Int) (h : Pot PP k m) (hn : 0 < n) (h2 : n < 2 ^ 200) : ∃ r m', F__law_draw [.hdl k, .dat (.int n)] m = some (.ok (.dat (.int r)), m') ∧ 0 ≤ r ∧ r < n ∧ Pot PP k m' ∧ Bes k m m' :=
  hDraw h hn (by have := lg (i := n) 200 (by omega) h2; omega)
def pinsL (x : D) : List D := [.exc "InvalidName" [("value", x)], .exc "InvalidPlaces" [("value", x)], .exc "InvalidPlace" [("value", x)], .exc "InvalidSign" [("value", x)], .exc "InvalidPosition" [("value", x)], .exc "InvalidPin" [("value", x)], .exc "InvalidTimes" [("value", x)], .exc "InvalidNumber" [("value", x)], .exc "InvalidBranches" [("value", x)], .exc "InvalidClaim" [("value", x)], .exc "InvalidCommand" [("value", x)], .exc "InvalidNames" [("position", x)], .exc "InvalidFacts" [("position", x)], .exc "InvalidPlan" [("position", x)], .exc "InvalidCrowds" [("position", x)], .exc "InvalidPairs" [("position", x)], .exc "InvalidParents" [("position", x)], .exc "InvalidText" [("line", x)]]
def restL (x y : D) : List D := [.exc "UnknownName" [("value", x)], .exc "UnknownEnd" [("value", x)], .exc "SameName" [("name", x)], .exc "CommonName" [("name", x)], .exc "OtherNames" [("other", y), ("one", x)], .exc "NoLot" [], .exc "NothingToUndo" [], .exc "CommandFailed" [("position", x)], .exc "TooMany" [("limit", y), ("what", x)]]
theorem pins_eq (x : D) (c : Cell) : F__law_pins [.dat x] [c] = some (.ok (.dat (.lst (pinsL x))), [c]) := by kernel_rfl
theorem rest_eq (x y : D) (c : Cell) : F__law_rest [.dat x, .dat y] [c] = some (.ok (.dat (.lst (restL x y))), [c]) := by kernel_rfl
theorem byn_eq (x y : D) (c : Cell) : F__law_by_name [.dat x, .dat y] [c] = some (.ok (.dat (.lst (pinsL x ++ restL x y))), [c]) := by kernel_rfl
def dueL (x y : D) : List D := List.replicate 23 x ++ [y, x, x, y]
theorem told_eq (x y : D) (c : Cell) : F__law_told [.dat (.lst (pinsL x ++ restL x y))] [c] = some (.ok (.dat (.lst (dueL x y))), [c]) := by kernel_rfl
theorem cls_eq (x y : D) (c : Cell) : F__law_classes_right [.dat x, .dat y] [c] = some (.ok (.dat (.bl true)), [c]) := by kernel_rfl
theorem lcEq {m : Mem} {a b c d e f g h : Option W} : ∀ {ds : List D} (_ : ∀ d ∈ ds, gEq d d = some (.bl true)) {acc : List D}, lcL (.tup [6, 7]) tYesM (mOp gEq (mVar 6) (mVar 7)) (ds.map fun d => .tup [d, d]) [a, b, c, d, e, f, g, h] m acc = some (acc ++ List.replicate ds.length (.bl true), m)
  | [], _, _ => by simp [lcL]
  | x :: r, hx, acc => by
    have h1 := hx x List.mem_cons_self
    have ih := lcEq (m := m) (a := a) (b := b) (c := c) (d := d) (e := e) (f := f) (g := g) (h := h) (ds := r) (fun d hd => hx d (List.mem_cons_of_mem _ hd)) (acc := acc ++ [.bl true])
    have e1 : CT.take (.tup [6, 7]) (.tup [x, x]) [a, b, c, d, e, f, g, h] = some [a, b, c, d, e, f, some (.dat x), some (.dat x)] := rfl
    rw [List.map_cons, lcL, e1]
    simp [tYesM, h1]
    simp at ih
    rw [ih]
    simp [List.replicate_succ]
def thL (i j k : Int) : List D := [.int 0, .int 1, .int (-1), .int i, .int (0 - j), .int (10 ^ 29 + k), .bl true, .bl false, .non, .str "", .str "a", .str "begin", .str "a.end", .tup [], .tup [.str "a"], .tup [.str "a", .str "end"], .lst [], .lst [.str "a"], .dct [], .dct [(.str "a", .tup [.int 0, .int 1])], .tup [.non, .int 0]]
theorem th_eq {i j k : Int} : ∀ d ∈ thL i j k, gEq d d = some (.bl true) := by
  intro d hd
  simp only [thL, List.mem_cons, List.not_mem_nil, or_false] at hd
  rcases hd with rfl | rfl | rfl | rfl | rfl | rfl | rfl | rfl | rfl | rfl | rfl | rfl | rfl | rfl | rfl | rfl | rfl | rfl | rfl | rfl | rfl <;> first | (simp; done) | kernel_rfl
theorem thing_ok {m : Mem} {k : Nat} (h : Pot PP k m) : ∃ d m', F__law_thing [.hdl k] m = some (.ok (.dat d), m') ∧ gEq d d = some (.bl true) ∧ Pot PP k m' ∧ Bes k m m' := by
  obtain ⟨i, m1, e1, a1, b1, p1, s1⟩ := dr 300 h (by decide) (by decide)
  obtain ⟨j, m2, e2, a2, b2, p2, s2⟩ := dr (10 ^ 9) p1 (by decide) (by decide)
  obtain ⟨n, m3, e3, a3, b3, p3, s3⟩ := dr 99 p2 (by decide) (by decide)
  obtain ⟨d, m4, e4, hd, p4, s4⟩ := pick_lst (N := N__law_pick) rfl hDraw p3 (xs := thL i j n) (by show 0 < 21; decide) (by show 21 ≤ 1000000; decide)
  have e4' : F__law_pick [.hdl k, .dat (.lst (thL i j n))] m3 = some (.ok (.dat d), m4) := e4
  have e2' : F__law_draw [.hdl k, .dat (.int 1000000000)] m1 = some (.ok (.dat (.int j)), m2) := e2
  refine ⟨d, m4, ?_, th_eq d hd, p4, ((s1.trans s2).trans s3).trans s4⟩
  have dd : mDct [(mC (.str "a"), mTup (mCons (mC (.int 0)) (mCons (mC (.int 1)) mNil)))] = fun ρ m => some (.ok (.dat (.dct [(.str "a", .tup [.int 0, .int 1])])), m) := by
    funext ρ m
    simp [mDct, mPairs, isKD, dMerge, keyD, dPut, kD]
  simp [F__law_thing, mFn_ap, m__law_thing, N__law_thing, e1, s1.take, e2', s2.take, e3, s3.take, dd]
  simp [thL] at e4'
  simp [e4', s4.take]
theorem right_ok {m : Mem} (h : Pot PP 0 m) (hl : m.length = 1) : ∃ m', F__law_right [.hdl 0] m = some (.ok (.dat (.bl true)), m') := by
  obtain ⟨x, m1, e1, hx, p1, s1⟩ := thing_ok h
  obtain ⟨y, m2, e2, hy, p2, s2⟩ := thing_ok p1
  have l2 : m2.length = 1 := by rw [s2.len, s1.len, hl]
  obtain ⟨c, rfl⟩ : ∃ c, m2 = [c] := by
    match m2, l2 with
    | [c], _ => exact ⟨c, rfl⟩
  refine ⟨[c], ?_⟩
  have hd : ∀ d ∈ dueL x y, gEq d d = some (.bl true) := by
    intro d hd
    unfold dueL at hd
    rcases List.mem_append.mp hd with hd | hd
    · rw [(List.mem_replicate.mp hd).2]; exact hx
    · simp only [List.mem_cons, List.not_mem_nil, or_false] at hd
      rcases hd with rfl | rfl | rfl | rfl <;> assumption
  have lz : ∀ a b c' d e f g h, lcL (.tup [6, 7]) tYesM (mOp gEq (mVar 6) (mVar 7)) (zipD (dueL x y) (dueL x y)) [a, b, c', d, e, f, g, h] [c] [] = some (List.replicate 27 (.bl true), [c]) := fun a b c' d e f g h => lcEq (m := [c]) (a := a) (b := b) (c := c') (d := d) (e := e) (f := f) hd (g := g) (h := h) (acc := [])
  refine fn_rt ?_
  show m__law_right [some (.hdl 0), none, none, none, none, none, none, none] m = _
  unfold m__law_right
  rw [seq_nx (ρ1 := [some (.hdl 0), some (.dat x), some (.dat y), none, none, none, none, none]) (m1 := [c]) (by simp [e1, s1.take, e2, s2.take])]
  rw [seq_set (m1 := [c]) (w := .dat (.lst (dueL x y))) (by kernel_rfl)]
  have body : ∀ o5, (sSeq (sSet 5 (mDef 1 0 (fun ws _ => ws) F__law_told (mCons (mVar 4) (mNil)) mNil))
      (sIf (mOrT (mTest (mOp fNe (mCa fLen (mCons (mVar 5) (mNil))) (mCa fLen (mCons (mVar 3) (mNil))))) (mNotT (mTest (mCa fAll (mCons (mLc (iZipM (mVar 5) (mVar 3)) (.tup [6, 7]) (tYesM) (mOp gEq (mVar 6) (mVar 7)) [6, 7]) (mNil)))))) (sRet (mC (.bl false))) (sNil)))
      [some (.hdl 0), some (.dat x), some (.dat y), some (.dat (.lst (dueL x y))), some (.dat (.lst (pinsL x ++ restL x y))), o5, none, none] [c] = some (.nx [some (.hdl 0), some (.dat x), some (.dat y), some (.dat (.lst (dueL x y))), some (.dat (.lst (pinsL x ++ restL x y))), some (.dat (.lst (dueL x y))), none, none], [c]) := by
    intro o5
    rw [seq_set (m1 := [c]) (w := .dat (.lst (dueL x y))) (by kernel_rfl)]
    have n1 : ∀ ρ : Slots, mLc (iZipM (mVar 5) (mVar 3)) (.tup [6, 7]) (tYesM) (mOp gEq (mVar 6) (mVar 7)) [6, 7] [some (.hdl 0), some (.dat x), some (.dat y), some (.dat (.lst (dueL x y))), some (.dat (.lst (pinsL x ++ restL x y))), some (.dat (.lst (dueL x y))), none, none] [c] = some (.ok (.dat (.lst (List.replicate 27 (.bl true)))), [c]) := fun ρ => by
      unfold mLc iZipM
      simp only [mVarS, mVar0, bnd_ok, ret_eq]
      rw [if_pos (by show (27 : Nat) < 1000000; decide)]
      show (match lcL _ _ _ _ _ _ _ with
        | some (ys, m2) => _
        | none => _) = _
      rw [show wipeS [some (W.hdl 0), some (.dat x), some (.dat y), some (.dat (.lst (dueL x y))), some (.dat (.lst (pinsL x ++ restL x y))), some (.dat (.lst (dueL x y))), none, none] [6, 7] = [some (W.hdl 0), some (.dat x), some (.dat y), some (.dat (.lst (dueL x y))), some (.dat (.lst (pinsL x ++ restL x y))), some (.dat (.lst (dueL x y))), none, none] from rfl, lz]
      rfl
    have t1 : mTest (mOp fNe (mCa fLen (mCons (mVar 5) (mNil))) (mCa fLen (mCons (mVar 3) (mNil)))) [some (.hdl 0), some (.dat x), some (.dat y), some (.dat (.lst (dueL x y))), some (.dat (.lst (pinsL x ++ restL x y))), some (.dat (.lst (dueL x y))), none, none] [c] = some (.ok false, [c]) := by kernel_rfl
    have t2 : mCa fAll (mCons (mLc (iZipM (mVar 5) (mVar 3)) (.tup [6, 7]) (tYesM) (mOp gEq (mVar 6) (mVar 7)) [6, 7]) (mNil)) [some (.hdl 0), some (.dat x), some (.dat y), some (.dat (.lst (dueL x y))), some (.dat (.lst (pinsL x ++ restL x y))), some (.dat (.lst (dueL x y))), none, none] [c] = some (.ok (.dat (.bl true)), [c]) := by
      rw [mCa_ap, mCons_ap, n1 []]
      kernel_rfl
    show sIf _ _ _ [some (.hdl 0), some (.dat x), some (.dat y), some (.dat (.lst (dueL x y))), some (.dat (.lst (pinsL x ++ restL x y))), some (.dat (.lst (dueL x y))), none, none] [c] = _
    rw [sIf_ap, mOrT_ap, t1, bnd_ok]
    dsimp only
    rw [mNotT_ap, mTest_ap, t2]
    rfl
  rw [seq_nx (ρ1 := [some (.hdl 0), some (.dat x), some (.dat y), some (.dat (.lst (dueL x y))), some (.dat (.lst (pinsL x ++ restL x y))), some (.dat (.lst (dueL x y))), none, none]) (m1 := [c]) ?_]
  · exact ret_rt (by simp [cls_eq])
  · rw [for_it (m1 := [c]) (ds := [.lst (pinsL x ++ restL x y), .lst (pinsL x ++ restL x y)]) (iAny_lst (by kernel_rfl)), forL_nx rfl (body _), forL_nx rfl (body _), forL_nil]
theorem law_ok (ns : List Int) (_ : ns.length ≤ 63) (_ : ∀ z ∈ ns, Builtin.Int.intBits z ≤ 1048576) : ∃ m', F_law [.dat (.lst (ns.map .int))] [] = some (.ok (.dat (.bl true)), m') := by
  refine round_ok (p := PP) (N := N_law) rfl hPot (fun h hl => right_ok h hl) (j := if (if (4 : Int) < ns.length then 4 else (ns.length : Int)) > 1 then (if (4 : Int) < ns.length then 4 else (ns.length : Int)) else 1) ?_ ?_ ?_
  · repeat' split <;> omega
  · repeat' split <;> omega
  · simp
end Lw
set_option maxHeartbeats 0
namespace Lw
open PySem PySem.Spec PyProof.Rows L2 Dm
theorem facts {P : Program} {w : World} {K : PySem.W.Frag} {h : Heap} {mg : Str → Option Value} {f : Addr} (X : K.In h) (G : h.Ns mainGlobals mg) (hfa : mg ("law" : Str) = some (.ref f)) (c : He.SaysD fa fn K) (TX : Dm.exAll rows owns tys K = true) :
    ∃ fd : FuncData, (∀ (s : Shared) (v : Value), BindsTo s fd ⟨[v], []⟩ [("_law_script", v)]) ∧ ∀ bs : Heap, K.In bs → bs.Ns mainGlobals mg → (∃ mm, bs.Ns sysModules mm) → FnG P w K mg bs 6 f fd ["_law_script"] (spM K 1 F_law) := by
  obtain ⟨fd, F⟩ := c.def_ 13 rfl
  have e := hfa.symm.trans (He.glo_ok X G (c.fact 13 (f := .glo "law") rfl))
  cases e
  have b := FunD.bindsA (ps := ["_law_script"]) F fun _ _ _ _ _ _ us hl => match us, hl with | [_], _ => rfl
  exact ⟨fd, fun s v => b s [v] rfl, fun bs hin hns hsm => ok_lawG (P := P) (w := w) (⟨c, hin, hns, hsm⟩ : Tx fa fn K mg bs) TX F⟩
end Lw
open PySem PySem.W PySem.Calls PyProof.Rows
theorem PySem.Challenge.cw_surepins_k11_errors_holds : PySem.Challenge.rw_surepins_k11_errors.Holds := by
  w_on; o_law
  refine HandSHeadRun.head_any (r := OpenLaw.row PySem.Challenge.rw_surepins_k11_errors) (q := view (OpenLaw.row PySem.Challenge.rw_surepins_k11_errors).prog [46]) (H := Lw.hk) (ob := Lw.ob) (M := 40000) (loose := Lw.loose) (d := HandSHeadRun.topDef (OpenLaw.row PySem.Challenge.rw_surepins_k11_errors).prog 46) (kwd := []) Lw.ob_eq
    (by kernel_rfl) (fun s => by kernel_rfl) Lw.run (by kernel_rfl) (by kernel_rfl) (by kernel_rfl) (by rfl) (by first | assumption | decide +kernel) (by decide +kernel) ⟨rfl, rfl, rfl, rfl, rfl, by decide +kernel⟩ ?hw ?hc
  case hw => w_witness2
  case hc =>
    refine Dm.walk_ofG (l := PySem.Challenge.rw_surepins_k11_errors) (n := 63) (k := 6) (x := "_law_script") rfl (by decide) (by kernel_rfl) ⟨rfl, by decide, by decide⟩ (by kernel_rfl) ?F
    intro w mg fa h Y G hmg0
    obtain ⟨K, KX, c, TX⟩ := Y
    have hmg : mg ("law" : PySem.Str) = some (.ref fa) := by
      have e : (HandSHeadRun.topDef (OpenLaw.row PySem.Challenge.rw_surepins_k11_errors).prog 46).name = ("law" : PySem.Str) := by kernel_rfl
      rw [← e]
      exact hmg0
    obtain ⟨fd, hb, hF⟩ := Lw.facts (P := (PySem.Challenge.rw_surepins_k11_errors).prog) (w := w) KX G hmg c TX
    exact ⟨K, fd, Dm.spM K 1 Lw.F_law, KX, hb, fun H a ns hl hbits ho hs => Dm.law_sp (fun ns hl hb => Lw.law_ok ns hl hb) H a ns hl hbits ho hs, hF⟩
