import Derived.Test.YthlchdnbokhclaaGreatQa3
import Derived.Test.YthlchdnbokhclaaGreatProg
import Derived.KernelRfl
set_option linter.all false
namespace Go.Proofs.YthlchdnbokhclaaGreat.Ql
open Go Go.Proofs
set_option maxRecDepth 100000
set_option maxHeartbeats 0
structure Cell where
  No:Int
  Height:Int
  Aspect:Int
  Area:Int
  deriving DecidableEq
structure Arr2_3 where
  a0:Int
  a1:Int
  deriving DecidableEq
structure Basin where
  Cells:List Cell
  Pairs:List Arr2_3
  Gain:Int
  Slack:Int
  Deep:Int
  deriving DecidableEq
structure Sight where
  No:Int
  Cell:Int
  Day:Int
  Lo:Int
  Hi:Int
  deriving DecidableEq
structure Change where
  Cell:Int
  From:Int
  To:Int
  Lo:Int
  Hi:Int
  deriving DecidableEq
structure Scene where
  Basin:Basin
  Days:List Int
  Sights:List Sight
  Changes:List Change
  deriving DecidableEq
structure Diff where
  From:Int
  To:Int
  Most:Int
  deriving DecidableEq
structure Net where
  Nodes:Int
  Diffs:List Diff
  deriving DecidableEq
structure Reason where
  Kind:Int
  Index:Int
  Day:Int
  Upper:Bool
  deriving DecidableEq
structure Laid_basin where
  s:Scene
  net:Net
  reasons:List Reason
  deriving DecidableEq
structure Spot_basin where
  cell:Int
  day:Int
  deriving DecidableEq
structure Tree_diffs where
  long:List Int
  has:List Bool
  last:List Int
  deriving DecidableEq
structure Plain_diffs where
  Net:Net
  deriving DecidableEq
structure Span where
  Lo:Int
  Hi:Int
  deriving DecidableEq
structure Use_diffs where
  Net:Net
  flow:List Int
  want:List Int
  deriving DecidableEq
structure Laid_snowlineref05 where
  l:List Diff
  r:List Reason
  deriving DecidableEq
structure Arr5_3 where
  a0:Int
  a1:Int
  a2:Int
  a3:Int
  a4:Int
  deriving DecidableEq
structure Arr2_30 where
  a0:Scene
  a1:Scene
  deriving DecidableEq
theorem icl_one:∀ x,(icl x).all AV.one=true:=fun _=>rfl
theorem icl_im:∀ x,(icl x).all AV.im=true:=fun _=>rfl
theorem icl_len:∀ x,(icl x).length=1:=fun _=>rfl
theorem bcl_one:∀ x,(bcl x).all AV.one=true:=fun _=>rfl
theorem bcl_im:∀ x,(bcl x).all AV.im=true:=fun _=>rfl
theorem bcl_len:∀ x,(bcl x).length=1:=fun _=>rfl
abbrev Cell.cl (x:Cell):List AV:=[Ai x.No,Ai x.Height,Ai x.Aspect,Ai x.Area]
theorem Cell_one:∀ x,(Cell.cl x).all AV.one=true:=fun _=>rfl
theorem Cell_im:∀ x,(Cell.cl x).all AV.im=true:=fun _=>rfl
theorem Cell_len:∀ x,(Cell.cl x).length=4:=fun _=>rfl
abbrev Arr2_3.cl (x:Arr2_3):List AV:=[Ai x.a0,Ai x.a1]
theorem Arr2_3_one:∀ x,(Arr2_3.cl x).all AV.one=true:=fun _=>rfl
theorem Arr2_3_im:∀ x,(Arr2_3.cl x).all AV.im=true:=fun _=>rfl
theorem Arr2_3_len:∀ x,(Arr2_3.cl x).length=2:=fun _=>rfl
abbrev Basin.cl (x:Basin):List AV:=[.lst 4 (x.Cells.map Cell.cl),.lst 2 (x.Pairs.map Arr2_3.cl),Ai x.Gain,Ai x.Slack,Ai x.Deep]
abbrev Sight.cl (x:Sight):List AV:=[Ai x.No,Ai x.Cell,Ai x.Day,Ai x.Lo,Ai x.Hi]
theorem Sight_one:∀ x,(Sight.cl x).all AV.one=true:=fun _=>rfl
theorem Sight_im:∀ x,(Sight.cl x).all AV.im=true:=fun _=>rfl
theorem Sight_len:∀ x,(Sight.cl x).length=5:=fun _=>rfl
abbrev Change.cl (x:Change):List AV:=[Ai x.Cell,Ai x.From,Ai x.To,Ai x.Lo,Ai x.Hi]
theorem Change_one:∀ x,(Change.cl x).all AV.one=true:=fun _=>rfl
theorem Change_im:∀ x,(Change.cl x).all AV.im=true:=fun _=>rfl
theorem Change_len:∀ x,(Change.cl x).length=5:=fun _=>rfl
abbrev Scene.cl (x:Scene):List AV:=[.lst 4 (x.Basin.Cells.map Cell.cl),.lst 2 (x.Basin.Pairs.map Arr2_3.cl),Ai x.Basin.Gain,Ai x.Basin.Slack,Ai x.Basin.Deep,.lst 1 (x.Days.map icl),.lst 5 (x.Sights.map Sight.cl),.lst 5 (x.Changes.map Change.cl)]
abbrev Diff.cl (x:Diff):List AV:=[Ai x.From,Ai x.To,Ai x.Most]
theorem Diff_one:∀ x,(Diff.cl x).all AV.one=true:=fun _=>rfl
theorem Diff_im:∀ x,(Diff.cl x).all AV.im=true:=fun _=>rfl
theorem Diff_len:∀ x,(Diff.cl x).length=3:=fun _=>rfl
abbrev Net.cl (x:Net):List AV:=[Ai x.Nodes,.lst 3 (x.Diffs.map Diff.cl)]
abbrev Reason.cl (x:Reason):List AV:=[Ai x.Kind,Ai x.Index,Ai x.Day,Ab x.Upper]
theorem Reason_one:∀ x,(Reason.cl x).all AV.one=true:=fun _=>rfl
theorem Reason_im:∀ x,(Reason.cl x).all AV.im=true:=fun _=>rfl
theorem Reason_len:∀ x,(Reason.cl x).length=4:=fun _=>rfl
abbrev Laid_basin.cl (x:Laid_basin):List AV:=[.lst 4 (x.s.Basin.Cells.map Cell.cl),.lst 2 (x.s.Basin.Pairs.map Arr2_3.cl),Ai x.s.Basin.Gain,Ai x.s.Basin.Slack,Ai x.s.Basin.Deep,.lst 1 (x.s.Days.map icl),.lst 5 (x.s.Sights.map Sight.cl),.lst 5 (x.s.Changes.map Change.cl),Ai x.net.Nodes,.lst 3 (x.net.Diffs.map Diff.cl),.lst 4 (x.reasons.map Reason.cl)]
abbrev Spot_basin.cl (x:Spot_basin):List AV:=[Ai x.cell,Ai x.day]
theorem Spot_basin_one:∀ x,(Spot_basin.cl x).all AV.one=true:=fun _=>rfl
theorem Spot_basin_im:∀ x,(Spot_basin.cl x).all AV.im=true:=fun _=>rfl
theorem Spot_basin_len:∀ x,(Spot_basin.cl x).length=2:=fun _=>rfl
abbrev Tree_diffs.cl (x:Tree_diffs):List AV:=[.lst 1 (x.long.map icl),.lst 1 (x.has.map bcl),.lst 1 (x.last.map icl)]
abbrev Plain_diffs.cl (x:Plain_diffs):List AV:=[Ai x.Net.Nodes,.lst 3 (x.Net.Diffs.map Diff.cl)]
abbrev Span.cl (x:Span):List AV:=[Ai x.Lo,Ai x.Hi]
theorem Span_one:∀ x,(Span.cl x).all AV.one=true:=fun _=>rfl
theorem Span_im:∀ x,(Span.cl x).all AV.im=true:=fun _=>rfl
theorem Span_len:∀ x,(Span.cl x).length=2:=fun _=>rfl
abbrev Use_diffs.cl (x:Use_diffs):List AV:=[Ai x.Net.Nodes,.lst 3 (x.Net.Diffs.map Diff.cl),.lst 1 (x.flow.map icl),.lst 1 (x.want.map icl)]
abbrev Laid_snowlineref05.cl (x:Laid_snowlineref05):List AV:=[.lst 3 (x.l.map Diff.cl),.lst 4 (x.r.map Reason.cl)]
abbrev Arr5_3.cl (x:Arr5_3):List AV:=[Ai x.a0,Ai x.a1,Ai x.a2,Ai x.a3,Ai x.a4]
abbrev Arr2_30.cl (x:Arr2_30):List AV:=[.lst 4 (x.a0.Basin.Cells.map Cell.cl),.lst 2 (x.a0.Basin.Pairs.map Arr2_3.cl),Ai x.a0.Basin.Gain,Ai x.a0.Basin.Slack,Ai x.a0.Basin.Deep,.lst 1 (x.a0.Days.map icl),.lst 5 (x.a0.Sights.map Sight.cl),.lst 5 (x.a0.Changes.map Change.cl),.lst 4 (x.a1.Basin.Cells.map Cell.cl),.lst 2 (x.a1.Basin.Pairs.map Arr2_3.cl),Ai x.a1.Basin.Gain,Ai x.a1.Basin.Slack,Ai x.a1.Basin.Deep,.lst 1 (x.a1.Days.map icl),.lst 5 (x.a1.Sights.map Sight.cl),.lst 5 (x.a1.Changes.map Change.cl)]
theorem Arr2_30_one:∀ x,(Arr2_30.cl x).all AV.one=true:=fun _=>rfl
theorem Arr2_30_im:∀ x,(Arr2_30.cl x).all AV.im=true:=fun _=>rfl
theorem Arr2_30_len:∀ x,(Arr2_30.cl x).length=16:=fun _=>rfl
abbrev cl26 (xs:List Int):List AV:=[.lst 1 (xs.map icl)]
theorem cl26_one:∀ x,(cl26 x).all AV.one=true:=fun _=>rfl
theorem cl26_im:∀ x,(cl26 x).all AV.im=true:=fun _=>rfl
theorem cl26_len:∀ x,(cl26 x).length=1:=fun _=>rfl
abbrev cl180 (xs:List Spot_basin):List AV:=[.lst 2 (xs.map Spot_basin.cl)]
abbrev cl183 (xs:List Span):List AV:=[.lst 2 (xs.map Span.cl)]
abbrev cl35 (xs:List Reason):List AV:=[.lst 4 (xs.map Reason.cl)]
theorem cl35_one:∀ x,(cl35 x).all AV.one=true:=fun _=>rfl
theorem cl35_im:∀ x,(cl35 x).all AV.im=true:=fun _=>rfl
theorem cl35_len:∀ x,(cl35 x).length=1:=fun _=>rfl
theorem hmix:Tryz.prog.follows .mixedOrders=true:=by kernel_rfl
theorem fld_56_0:Fld Tryz.prog 56 0 0:=⟨0,by kernel_rfl⟩
theorem siz_3:Siz Tryz.prog 3 1 false:=⟨by kernel_rfl,by kernel_rfl,rfl⟩
theorem fnok_140:FnOK Tryz.prog 140:=by unfold FnOK; rw [Tryz.func140]; rfl
theorem fld_56_1:Fld Tryz.prog 56 1 1:=⟨0,by kernel_rfl⟩
theorem fld_56_2:Fld Tryz.prog 56 2 2:=⟨0,by kernel_rfl⟩
theorem fld_56_3:Fld Tryz.prog 56 3 3:=⟨0,by kernel_rfl⟩
theorem fld_25_0:Fld Tryz.prog 25 0 0:=⟨0,by kernel_rfl⟩
theorem siz_22:Siz Tryz.prog 22 1 false:=⟨by kernel_rfl,by kernel_rfl,rfl⟩
theorem slc_22:Slc Tryz.prog 22 56 4 32 (.agg #[(.int .i64 0),(.int .i64 0),(.int .i64 0),(.int .i64 0)]):=⟨by kernel_rfl,by kernel_rfl,rfl,by decide⟩
theorem fld_25_1:Fld Tryz.prog 25 1 1:=⟨0,by kernel_rfl⟩
theorem siz_23:Siz Tryz.prog 23 1 false:=⟨by kernel_rfl,by kernel_rfl,rfl⟩
theorem slc_23:Slc Tryz.prog 23 97 2 16 (.agg #[(.int .i64 0),(.int .i64 0)]):=⟨by kernel_rfl,by kernel_rfl,rfl,by decide⟩
theorem fld_25_2:Fld Tryz.prog 25 2 2:=⟨0,by kernel_rfl⟩
theorem fld_25_3:Fld Tryz.prog 25 3 3:=⟨0,by kernel_rfl⟩
theorem fld_25_4:Fld Tryz.prog 25 4 4:=⟨0,by kernel_rfl⟩
theorem siz_56:Siz Tryz.prog 56 4 true:=⟨by kernel_rfl,by kernel_rfl,rfl⟩
theorem zer_56:Zer Tryz.prog 56 (.agg #[(.int .i64 0),(.int .i64 0),(.int .i64 0),(.int .i64 0)]):=by unfold Zer; kernel_rfl
theorem fnok_177:FnOK Tryz.prog 177:=by unfold FnOK; rw [Tryz.func177]; rfl
theorem siz_97:Siz Tryz.prog 97 2 true:=⟨by kernel_rfl,by kernel_rfl,rfl⟩
theorem zer_97:Zer Tryz.prog 97 (.agg #[(.int .i64 0),(.int .i64 0)]):=by unfold Zer; kernel_rfl
theorem arr_97:Arr Tryz.prog 97 2 1:=by unfold Arr; kernel_rfl
theorem pla_97:Pla Tryz.prog 97 2 1 [(0,1),(1,1)]:=⟨3,by kernel_rfl,by kernel_rfl,rfl,rfl⟩
theorem mpt_268:Mpt Tryz.prog 268:=⟨97,4,3,by kernel_rfl,by kernel_rfl,by kernel_rfl,by kernel_rfl,by kernel_rfl,by kernel_rfl,by kernel_rfl⟩
theorem slc_26:Slc Tryz.prog 26 3 1 8 (.int .i64 0):=⟨by kernel_rfl,by kernel_rfl,rfl,by decide⟩
theorem fnok_194:FnOK Tryz.prog 194:=by unfold FnOK; rw [Tryz.func194]; rfl
theorem fnok_296:FnOK Tryz.prog 296:=by unfold FnOK; rw [Tryz.func296]; rfl
theorem fnok_209:FnOK Tryz.prog 209:=by unfold FnOK; rw [Tryz.func209]; rfl
theorem fld_64_0:Fld Tryz.prog 64 0 0:=⟨0,by kernel_rfl⟩
theorem fld_30_0:Fld Tryz.prog 30 0 0:=⟨4,by kernel_rfl⟩
theorem siz_25:Siz Tryz.prog 25 5 true:=⟨by kernel_rfl,by kernel_rfl,rfl⟩
theorem fld_64_1:Fld Tryz.prog 64 1 1:=⟨0,by kernel_rfl⟩
theorem fnok_221:FnOK Tryz.prog 221:=by unfold FnOK; rw [Tryz.func221]; rfl
theorem fld_30_1:Fld Tryz.prog 30 1 5:=⟨0,by kernel_rfl⟩
theorem siz_26:Siz Tryz.prog 26 1 false:=⟨by kernel_rfl,by kernel_rfl,rfl⟩
theorem fld_64_2:Fld Tryz.prog 64 2 2:=⟨0,by kernel_rfl⟩
theorem fnok_83:FnOK Tryz.prog 83:=by unfold FnOK; rw [Tryz.func83]; rfl
theorem fld_64_3:Fld Tryz.prog 64 3 3:=⟨0,by kernel_rfl⟩
theorem fld_64_4:Fld Tryz.prog 64 4 4:=⟨0,by kernel_rfl⟩
theorem fld_67_1:Fld Tryz.prog 67 1 1:=⟨0,by kernel_rfl⟩
theorem fld_67_2:Fld Tryz.prog 67 2 2:=⟨0,by kernel_rfl⟩
theorem fld_67_0:Fld Tryz.prog 67 0 0:=⟨0,by kernel_rfl⟩
theorem fld_67_3:Fld Tryz.prog 67 3 3:=⟨0,by kernel_rfl⟩
theorem fld_67_4:Fld Tryz.prog 67 4 4:=⟨0,by kernel_rfl⟩
theorem fnok_74:FnOK Tryz.prog 74:=by unfold FnOK; rw [Tryz.func74]; rfl
theorem fnok_174:FnOK Tryz.prog 174:=by unfold FnOK; rw [Tryz.func174]; rfl
theorem fld_30_2:Fld Tryz.prog 30 2 6:=⟨0,by kernel_rfl⟩
theorem siz_27:Siz Tryz.prog 27 1 false:=⟨by kernel_rfl,by kernel_rfl,rfl⟩
theorem slc_27:Slc Tryz.prog 27 64 5 40 (.agg #[(.int .i64 0),(.int .i64 0),(.int .i64 0),(.int .i64 0),(.int .i64 0)]):=⟨by kernel_rfl,by kernel_rfl,rfl,by decide⟩
theorem fld_30_3:Fld Tryz.prog 30 3 7:=⟨0,by kernel_rfl⟩
theorem siz_28:Siz Tryz.prog 28 1 false:=⟨by kernel_rfl,by kernel_rfl,rfl⟩
theorem slc_28:Slc Tryz.prog 28 67 5 40 (.agg #[(.int .i64 0),(.int .i64 0),(.int .i64 0),(.int .i64 0),(.int .i64 0)]):=⟨by kernel_rfl,by kernel_rfl,rfl,by decide⟩
theorem siz_64:Siz Tryz.prog 64 5 true:=⟨by kernel_rfl,by kernel_rfl,rfl⟩
theorem zer_64:Zer Tryz.prog 64 (.agg #[(.int .i64 0),(.int .i64 0),(.int .i64 0),(.int .i64 0),(.int .i64 0)]):=by unfold Zer; kernel_rfl
theorem siz_30:Siz Tryz.prog 30 8 true:=⟨by kernel_rfl,by kernel_rfl,rfl⟩
theorem fnok_130:FnOK Tryz.prog 130:=by unfold FnOK; rw [Tryz.func130]; rfl
theorem siz_67:Siz Tryz.prog 67 5 true:=⟨by kernel_rfl,by kernel_rfl,rfl⟩
theorem zer_67:Zer Tryz.prog 67 (.agg #[(.int .i64 0),(.int .i64 0),(.int .i64 0),(.int .i64 0),(.int .i64 0)]):=by unfold Zer; kernel_rfl
theorem fnok_175:FnOK Tryz.prog 175:=by unfold FnOK; rw [Tryz.func175]; rfl
theorem fld_170_0:Fld Tryz.prog 170 0 0:=⟨7,by kernel_rfl⟩
theorem fld_170_1:Fld Tryz.prog 170 1 8:=⟨1,by kernel_rfl⟩
theorem fld_34_1:Fld Tryz.prog 34 1 1:=⟨0,by kernel_rfl⟩
theorem siz_32:Siz Tryz.prog 32 1 false:=⟨by kernel_rfl,by kernel_rfl,rfl⟩
theorem plc_174:Plc Tryz.prog 174 [(0,1),(1,1),(2,1)]:=by unfold Plc; kernel_rfl
theorem zer_174:Zer Tryz.prog 174 (.agg #[(.int .i64 0),(.int .i64 0),(.int .i64 0)]):=by unfold Zer; kernel_rfl
theorem slc_32:Slc Tryz.prog 32 174 3 24 (.agg #[(.int .i64 0),(.int .i64 0),(.int .i64 0)]):=⟨by kernel_rfl,by kernel_rfl,rfl,by decide⟩
theorem fld_170_2:Fld Tryz.prog 170 2 10:=⟨0,by kernel_rfl⟩
theorem siz_35:Siz Tryz.prog 35 1 false:=⟨by kernel_rfl,by kernel_rfl,rfl⟩
theorem siz_42:Siz Tryz.prog 42 4 true:=⟨by kernel_rfl,by kernel_rfl,rfl⟩
theorem slc_35:Slc Tryz.prog 35 42 4 32 (.agg #[(.int .i64 0),(.int .i64 0),(.int .i64 0),(.bool false)]):=⟨by kernel_rfl,by kernel_rfl,rfl,by decide⟩
theorem siz_167:Siz Tryz.prog 167 1 false:=⟨by kernel_rfl,by kernel_rfl,rfl⟩
theorem fnok_202:FnOK Tryz.prog 202:=by unfold FnOK; rw [Tryz.func202]; rfl
theorem zer_25:Zer Tryz.prog 25 (.agg #[(.slice none 0 0),(.slice none 0 0),(.int .i64 0),(.int .i64 0),(.int .i64 0)]):=by unfold Zer; kernel_rfl
theorem plc_34:Plc Tryz.prog 34 [(0,1),(1,1)]:=by unfold Plc; kernel_rfl
theorem zer_34:Zer Tryz.prog 34 (.agg #[(.int .i64 0),(.slice none 0 0)]):=by unfold Zer; kernel_rfl
theorem plc_170:Plc Tryz.prog 170 [(0,8),(8,2),(10,1)]:=by unfold Plc; kernel_rfl
theorem zer_170:Zer Tryz.prog 170 (.agg #[(.slice none 0 0),(.slice none 0 0),(.int .i64 0),(.int .i64 0),(.int .i64 0),(.slice none 0 0),(.slice none 0 0),(.slice none 0 0),(.int .i64 0),(.slice none 0 0),(.slice none 0 0)]):=by unfold Zer; kernel_rfl
theorem zer_167:Zer Tryz.prog 167 (.pointer none):=by unfold Zer; kernel_rfl
theorem plc_42:Plc Tryz.prog 42 [(0,1),(1,1),(2,1),(3,1)]:=by unfold Plc; kernel_rfl
theorem zer_42:Zer Tryz.prog 42 (.agg #[(.int .i64 0),(.int .i64 0),(.int .i64 0),(.bool false)]):=by unfold Zer; kernel_rfl
theorem fnok_219:FnOK Tryz.prog 219:=by unfold FnOK; rw [Tryz.func219]; rfl
theorem fnok_141:FnOK Tryz.prog 141:=by unfold FnOK; rw [Tryz.func141]; rfl
theorem fnok_142:FnOK Tryz.prog 142:=by unfold FnOK; rw [Tryz.func142]; rfl
theorem fnok_220:FnOK Tryz.prog 220:=by unfold FnOK; rw [Tryz.func220]; rfl
theorem fnok_66:FnOK Tryz.prog 66:=by unfold FnOK; rw [Tryz.func66]; rfl
theorem siz_34:Siz Tryz.prog 34 2 true:=⟨by kernel_rfl,by kernel_rfl,rfl⟩
theorem fnok_102:FnOK Tryz.prog 102:=by unfold FnOK; rw [Tryz.func102]; rfl
theorem fld_174_0:Fld Tryz.prog 174 0 0:=⟨0,by kernel_rfl⟩
theorem fnok_282:FnOK Tryz.prog 282:=by unfold FnOK; rw [Tryz.func282]; rfl
theorem fld_174_1:Fld Tryz.prog 174 1 1:=⟨0,by kernel_rfl⟩
theorem fld_174_2:Fld Tryz.prog 174 2 2:=⟨0,by kernel_rfl⟩
theorem fld_34_0:Fld Tryz.prog 34 0 0:=⟨0,by kernel_rfl⟩
theorem siz_174:Siz Tryz.prog 174 3 true:=⟨by kernel_rfl,by kernel_rfl,rfl⟩
theorem fnok_301:FnOK Tryz.prog 301:=by unfold FnOK; rw [Tryz.func301]; rfl
theorem slc_191:Slc Tryz.prog 191 4 1 1 (.bool false):=⟨by kernel_rfl,by kernel_rfl,rfl,by decide⟩
theorem siz_4:Siz Tryz.prog 4 1 false:=⟨by kernel_rfl,by kernel_rfl,rfl⟩
theorem bol_4:Tryz.prog.underlying 4=some .bool:=by kernel_rfl
theorem fnok_339:FnOK Tryz.prog 339:=by unfold FnOK; rw [Tryz.func339]; rfl
theorem fnok_227:FnOK Tryz.prog 227:=by unfold FnOK; rw [Tryz.func227]; rfl
theorem fnok_297:FnOK Tryz.prog 297:=by unfold FnOK; rw [Tryz.func297]; rfl
theorem fnok_337:FnOK Tryz.prog 337:=by unfold FnOK; rw [Tryz.func337]; rfl
theorem fnok_298:FnOK Tryz.prog 298:=by unfold FnOK; rw [Tryz.func298]; rfl
theorem fnok_292:FnOK Tryz.prog 292:=by unfold FnOK; rw [Tryz.func292]; rfl
theorem fnok_340:FnOK Tryz.prog 340:=by unfold FnOK; rw [Tryz.func340]; rfl
theorem fnok_300:FnOK Tryz.prog 300:=by unfold FnOK; rw [Tryz.func300]; rfl
theorem fnok_299:FnOK Tryz.prog 299:=by unfold FnOK; rw [Tryz.func299]; rfl
theorem fnok_224:FnOK Tryz.prog 224:=by unfold FnOK; rw [Tryz.func224]; rfl
theorem fnok_223:FnOK Tryz.prog 223:=by unfold FnOK; rw [Tryz.func223]; rfl
theorem fnok_225:FnOK Tryz.prog 225:=by unfold FnOK; rw [Tryz.func225]; rfl
theorem slc_44:Slc Tryz.prog 44 26 1 24 (.slice none 0 0):=⟨by kernel_rfl,by kernel_rfl,rfl,by decide⟩
theorem fnok_104:FnOK Tryz.prog 104:=by unfold FnOK; rw [Tryz.func104]; rfl
theorem plc_190:Plc Tryz.prog 190 [(0,1),(1,1)]:=by unfold Plc; kernel_rfl
theorem zer_190:Zer Tryz.prog 190 (.agg #[(.int .i64 0),(.int .i64 0)]):=by unfold Zer; kernel_rfl
theorem slc_180:Slc Tryz.prog 180 190 2 16 (.agg #[(.int .i64 0),(.int .i64 0)]):=⟨by kernel_rfl,by kernel_rfl,rfl,by decide⟩
theorem uns_26:Tryz.prog.underlying 26=some (.slice 3):=by kernel_rfl
theorem fnok_85:FnOK Tryz.prog 85:=by unfold FnOK; rw [Tryz.func85]; rfl
theorem fnok_218:FnOK Tryz.prog 218:=by unfold FnOK; rw [Tryz.func218]; rfl
theorem int_377:Tryz.prog.underlying 377=some (.int .u32):=by kernel_rfl
theorem int_379:Tryz.prog.underlying 379=some (.int .u64):=by kernel_rfl
theorem fnok_368:FnOK Tryz.prog 368:=by unfold FnOK; rw [Tryz.func368]; rfl
theorem int_3:Tryz.prog.underlying 3=some (.int .i64):=by kernel_rfl
theorem int_325:Tryz.prog.underlying 325=some (.int .u64):=by kernel_rfl
theorem fnok_361:FnOK Tryz.prog 361:=by unfold FnOK; rw [Tryz.func361]; rfl
theorem fld_318_2:Fld Tryz.prog 318 2 2:=⟨0,by kernel_rfl⟩
theorem zer_318:Zer Tryz.prog 318 (.agg #[(.slice none 0 0),(.slice none 0 0),(.slice none 0 0)]):=by unfold Zer; kernel_rfl
theorem fnok_343:FnOK Tryz.prog 343:=by unfold FnOK; rw [Tryz.func343]; rfl
theorem plc_318:Plc Tryz.prog 318 [(0,1),(1,1),(2,1)]:=by unfold Plc; kernel_rfl
theorem siz_318:Siz Tryz.prog 318 3 true:=⟨by kernel_rfl,by kernel_rfl,rfl⟩
theorem fld_318_1:Fld Tryz.prog 318 1 1:=⟨0,by kernel_rfl⟩
theorem siz_191:Siz Tryz.prog 191 1 false:=⟨by kernel_rfl,by kernel_rfl,rfl⟩
theorem fld_318_0:Fld Tryz.prog 318 0 0:=⟨0,by kernel_rfl⟩
theorem fnok_344:FnOK Tryz.prog 344:=by unfold FnOK; rw [Tryz.func344]; rfl
theorem fnok_312:FnOK Tryz.prog 312:=by unfold FnOK; rw [Tryz.func312]; rfl
theorem fnok_311:FnOK Tryz.prog 311:=by unfold FnOK; rw [Tryz.func311]; rfl
theorem fld_322_0:Fld Tryz.prog 322 0 0:=⟨1,by kernel_rfl⟩
theorem plc_322:Plc Tryz.prog 322 [(0,2)]:=by unfold Plc; kernel_rfl
theorem zer_322:Zer Tryz.prog 322 (.agg #[(.int .i64 0),(.slice none 0 0)]):=by unfold Zer; kernel_rfl
theorem nif_322:(match Tryz.prog.underlying 322 with | some (.interface _)=>false | some _=>true | none=>false)=true:=by kernel_rfl
theorem fnok_386:FnOK Tryz.prog 386:=by unfold FnOK; rw [Tryz.func386]; rfl
theorem meth_322_386 : MethOK Tryz.prog 322 "snowline/diffs.lines" 386 := meth_of (pr := false) (by unfold Mth; kernel_rfl) (by kernel_rfl)
theorem fnok_387:FnOK Tryz.prog 387:=by unfold FnOK; rw [Tryz.func387]; rfl
theorem meth_322_387 : MethOK Tryz.prog 322 "snowline/diffs.nodes" 387 := meth_of (pr := false) (by unfold Mth; kernel_rfl) (by kernel_rfl)
theorem fnok_251:FnOK Tryz.prog 251:=by unfold FnOK; rw [Tryz.func251]; rfl
theorem fnok_288:FnOK Tryz.prog 288:=by unfold FnOK; rw [Tryz.func288]; rfl
theorem fnok_228:FnOK Tryz.prog 228:=by unfold FnOK; rw [Tryz.func228]; rfl
theorem fnok_108:FnOK Tryz.prog 108:=by unfold FnOK; rw [Tryz.func108]; rfl
theorem fnok_107:FnOK Tryz.prog 107:=by unfold FnOK; rw [Tryz.func107]; rfl
theorem fnok_232:FnOK Tryz.prog 232:=by unfold FnOK; rw [Tryz.func232]; rfl
theorem fnok_111:FnOK Tryz.prog 111:=by unfold FnOK; rw [Tryz.func111]; rfl
theorem fnok_31:FnOK Tryz.prog 31:=by unfold FnOK; rw [Tryz.func31]; rfl
theorem fnok_29:FnOK Tryz.prog 29:=by unfold FnOK; rw [Tryz.func29]; rfl
theorem siz_190:Siz Tryz.prog 190 2 true:=⟨by kernel_rfl,by kernel_rfl,rfl⟩
theorem fld_190_1:Fld Tryz.prog 190 1 1:=⟨0,by kernel_rfl⟩
theorem fld_190_0:Fld Tryz.prog 190 0 0:=⟨0,by kernel_rfl⟩
theorem plc_49:Plc Tryz.prog 49 [(0,1),(1,1)]:=by unfold Plc; kernel_rfl
theorem zer_49:Zer Tryz.prog 49 (.agg #[(.int .i64 0),(.int .i64 0)]):=by unfold Zer; kernel_rfl
theorem slc_183:Slc Tryz.prog 183 49 2 16 (.agg #[(.int .i64 0),(.int .i64 0)]):=⟨by kernel_rfl,by kernel_rfl,rfl,by decide⟩
theorem fnok_113:FnOK Tryz.prog 113:=by unfold FnOK; rw [Tryz.func113]; rfl
theorem siz_49:Siz Tryz.prog 49 2 true:=⟨by kernel_rfl,by kernel_rfl,rfl⟩
theorem fnok_114:FnOK Tryz.prog 114:=by unfold FnOK; rw [Tryz.func114]; rfl
theorem fld_49_0:Fld Tryz.prog 49 0 0:=⟨0,by kernel_rfl⟩
theorem fld_49_1:Fld Tryz.prog 49 1 1:=⟨0,by kernel_rfl⟩
theorem fnok_338:FnOK Tryz.prog 338:=by unfold FnOK; rw [Tryz.func338]; rfl
theorem fld_307_1:Fld Tryz.prog 307 1 2:=⟨0,by kernel_rfl⟩
theorem uns_32:Tryz.prog.underlying 32=some (.slice 174):=by kernel_rfl
theorem fld_307_0:Fld Tryz.prog 307 0 0:=⟨1,by kernel_rfl⟩
theorem fnok_366:FnOK Tryz.prog 366:=by unfold FnOK; rw [Tryz.func366]; rfl
theorem fnok_360:FnOK Tryz.prog 360:=by unfold FnOK; rw [Tryz.func360]; rfl
theorem fnok_359:FnOK Tryz.prog 359:=by unfold FnOK; rw [Tryz.func359]; rfl
theorem nif_302:(match Tryz.prog.underlying 302 with | some (.interface _)=>false | some _=>true | none=>false)=true:=by kernel_rfl
theorem meth_302_359 : MethOK Tryz.prog 302 "snowline/diffs.lines" 359 := meth_of (pr := true) (by unfold Mth; kernel_rfl) (by kernel_rfl)
theorem fnok_385:FnOK Tryz.prog 385:=by unfold FnOK; rw [Tryz.func385]; rfl
theorem meth_302_385 : MethOK Tryz.prog 302 "snowline/diffs.nodes" 385 := meth_of (pr := true) (by unfold Mth; kernel_rfl) (by kernel_rfl)
theorem fld_307_2:Fld Tryz.prog 307 2 3:=⟨0,by kernel_rfl⟩
theorem fnok_342:FnOK Tryz.prog 342:=by unfold FnOK; rw [Tryz.func342]; rfl
theorem fnok_341:FnOK Tryz.prog 341:=by unfold FnOK; rw [Tryz.func341]; rfl
theorem fnok_294:FnOK Tryz.prog 294:=by unfold FnOK; rw [Tryz.func294]; rfl
theorem plc_307:Plc Tryz.prog 307 [(0,2),(2,1),(3,1)]:=by unfold Plc; kernel_rfl
theorem zer_307:Zer Tryz.prog 307 (.agg #[(.int .i64 0),(.slice none 0 0),(.slice none 0 0),(.slice none 0 0)]):=by unfold Zer; kernel_rfl
theorem fnok_303:FnOK Tryz.prog 303:=by unfold FnOK; rw [Tryz.func303]; rfl
theorem fnok_235:FnOK Tryz.prog 235:=by unfold FnOK; rw [Tryz.func235]; rfl
theorem fnok_236:FnOK Tryz.prog 236:=by unfold FnOK; rw [Tryz.func236]; rfl
theorem fnok_120:FnOK Tryz.prog 120:=by unfold FnOK; rw [Tryz.func120]; rfl
theorem fnok_121:FnOK Tryz.prog 121:=by unfold FnOK; rw [Tryz.func121]; rfl
theorem uns_27:Tryz.prog.underlying 27=some (.slice 64):=by kernel_rfl
theorem uns_28:Tryz.prog.underlying 28=some (.slice 67):=by kernel_rfl
theorem uns_22:Tryz.prog.underlying 22=some (.slice 56):=by kernel_rfl
theorem uns_23:Tryz.prog.underlying 23=some (.slice 97):=by kernel_rfl
theorem zer_30:Zer Tryz.prog 30 (.agg #[(.slice none 0 0),(.slice none 0 0),(.int .i64 0),(.int .i64 0),(.int .i64 0),(.slice none 0 0),(.slice none 0 0),(.slice none 0 0)]):=by unfold Zer; kernel_rfl
theorem fnok_249:FnOK Tryz.prog 249:=by unfold FnOK; rw [Tryz.func249]; rfl
theorem fnok_250:FnOK Tryz.prog 250:=by unfold FnOK; rw [Tryz.func250]; rfl
theorem fnok_42:FnOK Tryz.prog 42:=by unfold FnOK; rw [Tryz.func42]; rfl
theorem fnok_43:FnOK Tryz.prog 43:=by unfold FnOK; rw [Tryz.func43]; rfl
theorem plc_30:Plc Tryz.prog 30 [(0,5),(5,1),(6,1),(7,1)]:=by unfold Plc; kernel_rfl
theorem fnok_131:FnOK Tryz.prog 131:=by unfold FnOK; rw [Tryz.func131]; rfl
theorem fnok_252:FnOK Tryz.prog 252:=by unfold FnOK; rw [Tryz.func252]; rfl
theorem fnok_350:FnOK Tryz.prog 350:=by unfold FnOK; rw [Tryz.func350]; rfl
theorem fnok_319:FnOK Tryz.prog 319:=by unfold FnOK; rw [Tryz.func319]; rfl
theorem fnok_345:FnOK Tryz.prog 345:=by unfold FnOK; rw [Tryz.func345]; rfl
theorem int_5:Tryz.prog.underlying 5=some (.int .u8):=by kernel_rfl
theorem str_9:Tryz.prog.underlying 9=some .string:=by kernel_rfl
theorem fnok_323:FnOK Tryz.prog 323:=by unfold FnOK; rw [Tryz.func323]; rfl
theorem fnok_254:FnOK Tryz.prog 254:=by unfold FnOK; rw [Tryz.func254]; rfl
theorem siz_395:Siz Tryz.prog 395 1 false:=⟨by kernel_rfl,by kernel_rfl,rfl⟩
theorem fnok_362:FnOK Tryz.prog 362:=by unfold FnOK; rw [Tryz.func362]; rfl
theorem fnok_349:FnOK Tryz.prog 349:=by unfold FnOK; rw [Tryz.func349]; rfl
theorem zer_3:Zer Tryz.prog 3 (.int .i64 0):=by unfold Zer; kernel_rfl
theorem fnok_348:FnOK Tryz.prog 348:=by unfold FnOK; rw [Tryz.func348]; rfl
theorem fnok_313:FnOK Tryz.prog 313:=by unfold FnOK; rw [Tryz.func313]; rfl
theorem fnok_314:FnOK Tryz.prog 314:=by unfold FnOK; rw [Tryz.func314]; rfl
theorem fnok_316:FnOK Tryz.prog 316:=by unfold FnOK; rw [Tryz.func316]; rfl
theorem fnok_317:FnOK Tryz.prog 317:=by unfold FnOK; rw [Tryz.func317]; rfl
theorem fnok_318:FnOK Tryz.prog 318:=by unfold FnOK; rw [Tryz.func318]; rfl
theorem fnok_253:FnOK Tryz.prog 253:=by unfold FnOK; rw [Tryz.func253]; rfl
theorem fnok_84:FnOK Tryz.prog 84:=by unfold FnOK; rw [Tryz.func84]; rfl
theorem fnok_139:FnOK Tryz.prog 139:=by unfold FnOK; rw [Tryz.func139]; rfl
theorem fnok_255:FnOK Tryz.prog 255:=by unfold FnOK; rw [Tryz.func255]; rfl
theorem fnok_138:FnOK Tryz.prog 138:=by unfold FnOK; rw [Tryz.func138]; rfl
theorem fnok_137:FnOK Tryz.prog 137:=by unfold FnOK; rw [Tryz.func137]; rfl
theorem fnok_132:FnOK Tryz.prog 132:=by unfold FnOK; rw [Tryz.func132]; rfl
theorem fld_42_0:Fld Tryz.prog 42 0 0:=⟨0,by kernel_rfl⟩
theorem fld_42_1:Fld Tryz.prog 42 1 1:=⟨0,by kernel_rfl⟩
theorem fnok_133:FnOK Tryz.prog 133:=by unfold FnOK; rw [Tryz.func133]; rfl
theorem fnok_134:FnOK Tryz.prog 134:=by unfold FnOK; rw [Tryz.func134]; rfl
theorem fnok_136:FnOK Tryz.prog 136:=by unfold FnOK; rw [Tryz.func136]; rfl
theorem fnok_135:FnOK Tryz.prog 135:=by unfold FnOK; rw [Tryz.func135]; rfl
theorem fsp_49 (x y:Span):fsP Tryz.prog 49 [.int .i64 x.Lo,.int .i64 x.Hi] [.int .i64 y.Lo,.int .i64 y.Hi]=true:=by kernel_rfl
theorem eqs_49 (x y:Span):eqc [.int .i64 x.Lo,.int .i64 x.Hi] [.int .i64 y.Lo,.int .i64 y.Hi]=decide (x=y):=by rw [Bool.eq_iff_iff]; cases x; cases y; simp [eqc,eq1]
theorem siz_180:Siz Tryz.prog 180 1 false:=⟨by kernel_rfl,by kernel_rfl,rfl⟩
theorem siz_183:Siz Tryz.prog 183 1 false:=⟨by kernel_rfl,by kernel_rfl,rfl⟩
theorem fnok_191:FnOK Tryz.prog 191:=by unfold FnOK; rw [Tryz.func191]; rfl
theorem zer_180:Zer Tryz.prog 180 (.slice none 0 0):=by unfold Zer; kernel_rfl
theorem zer_183:Zer Tryz.prog 183 (.slice none 0 0):=by unfold Zer; kernel_rfl
theorem fnok_189:FnOK Tryz.prog 189:=by unfold FnOK; rw [Tryz.func189]; rfl
theorem fnok_190:FnOK Tryz.prog 190:=by unfold FnOK; rw [Tryz.func190]; rfl
theorem fsp_42 (x y:Reason):fsP Tryz.prog 42 [.int .i64 x.Kind,.int .i64 x.Index,.int .i64 x.Day,.bool x.Upper] [.int .i64 y.Kind,.int .i64 y.Index,.int .i64 y.Day,.bool y.Upper]=true:=by kernel_rfl
theorem eqs_42 (x y:Reason):eqc [.int .i64 x.Kind,.int .i64 x.Index,.int .i64 x.Day,.bool x.Upper] [.int .i64 y.Kind,.int .i64 y.Index,.int .i64 y.Day,.bool y.Upper]=decide (x=y):=by rw [Bool.eq_iff_iff]; cases x; cases y; simp [eqc,eq1]
theorem fnok_333:FnOK Tryz.prog 333:=by unfold FnOK; rw [Tryz.func333]; rfl
theorem fnok_283:FnOK Tryz.prog 283:=by unfold FnOK; rw [Tryz.func283]; rfl
theorem fnok_284:FnOK Tryz.prog 284:=by unfold FnOK; rw [Tryz.func284]; rfl
theorem fnok_201:FnOK Tryz.prog 201:=by unfold FnOK; rw [Tryz.func201]; rfl
theorem fnok_203:FnOK Tryz.prog 203:=by unfold FnOK; rw [Tryz.func203]; rfl
theorem fnok_204:FnOK Tryz.prog 204:=by unfold FnOK; rw [Tryz.func204]; rfl
theorem plc_56:Plc Tryz.prog 56 [(0,1),(1,1),(2,1),(3,1)]:=by unfold Plc; kernel_rfl
theorem plc_25:Plc Tryz.prog 25 [(0,1),(1,1),(2,1),(3,1),(4,1)]:=by unfold Plc; kernel_rfl
theorem plc_64:Plc Tryz.prog 64 [(0,1),(1,1),(2,1),(3,1),(4,1)]:=by unfold Plc; kernel_rfl
theorem fnok_100:FnOK Tryz.prog 100:=by unfold FnOK; rw [Tryz.func100]; rfl
theorem fnok_55:FnOK Tryz.prog 55:=by unfold FnOK; rw [Tryz.func55]; rfl
theorem fnok_33:FnOK Tryz.prog 33:=by unfold FnOK; rw [Tryz.func33]; rfl
theorem fnok_39:FnOK Tryz.prog 39:=by unfold FnOK; rw [Tryz.func39]; rfl
theorem fnok_22:FnOK Tryz.prog 22:=by unfold FnOK; rw [Tryz.func22]; rfl
theorem fnok_91:FnOK Tryz.prog 91:=by unfold FnOK; rw [Tryz.func91]; rfl
theorem fnok_26:FnOK Tryz.prog 26:=by unfold FnOK; rw [Tryz.func26]; rfl
theorem fnok_53:FnOK Tryz.prog 53:=by unfold FnOK; rw [Tryz.func53]; rfl
theorem fnok_54:FnOK Tryz.prog 54:=by unfold FnOK; rw [Tryz.func54]; rfl
theorem plc_67:Plc Tryz.prog 67 [(0,1),(1,1),(2,1),(3,1),(4,1)]:=by unfold Plc; kernel_rfl
theorem fnok_40:FnOK Tryz.prog 40:=by unfold FnOK; rw [Tryz.func40]; rfl
theorem fnok_81:FnOK Tryz.prog 81:=by unfold FnOK; rw [Tryz.func81]; rfl
theorem fnok_101:FnOK Tryz.prog 101:=by unfold FnOK; rw [Tryz.func101]; rfl
theorem fnok_182:FnOK Tryz.prog 182:=by unfold FnOK; rw [Tryz.func182]; rfl
theorem fnok_178:FnOK Tryz.prog 178:=by unfold FnOK; rw [Tryz.func178]; rfl
theorem fnok_116:FnOK Tryz.prog 116:=by unfold FnOK; rw [Tryz.func116]; rfl
theorem fnok_117:FnOK Tryz.prog 117:=by unfold FnOK; rw [Tryz.func117]; rfl
theorem fnok_75:FnOK Tryz.prog 75:=by unfold FnOK; rw [Tryz.func75]; rfl
theorem fnok_181:FnOK Tryz.prog 181:=by unfold FnOK; rw [Tryz.func181]; rfl
theorem fnok_183:FnOK Tryz.prog 183:=by unfold FnOK; rw [Tryz.func183]; rfl
theorem zer_293:Zer Tryz.prog 293 (.agg #[(.slice none 0 0),(.slice none 0 0)]):=by unfold Zer; kernel_rfl
theorem fld_293_0:Fld Tryz.prog 293 0 0:=⟨0,by kernel_rfl⟩
theorem fld_293_1:Fld Tryz.prog 293 1 1:=⟨0,by kernel_rfl⟩
theorem plc_293:Plc Tryz.prog 293 [(0,1),(1,1)]:=by unfold Plc; kernel_rfl
theorem siz_293:Siz Tryz.prog 293 2 true:=⟨by kernel_rfl,by kernel_rfl,rfl⟩
theorem fnok_205:FnOK Tryz.prog 205:=by unfold FnOK; rw [Tryz.func205]; rfl
theorem fnok_222:FnOK Tryz.prog 222:=by unfold FnOK; rw [Tryz.func222]; rfl
theorem fnok_179:FnOK Tryz.prog 179:=by unfold FnOK; rw [Tryz.func179]; rfl
theorem fnok_180:FnOK Tryz.prog 180:=by unfold FnOK; rw [Tryz.func180]; rfl
theorem fnok_76:FnOK Tryz.prog 76:=by unfold FnOK; rw [Tryz.func76]; rfl
theorem fnok_103:FnOK Tryz.prog 103:=by unfold FnOK; rw [Tryz.func103]; rfl
theorem fsp_174 (x y:Diff):fsP Tryz.prog 174 [.int .i64 x.From,.int .i64 x.To,.int .i64 x.Most] [.int .i64 y.From,.int .i64 y.To,.int .i64 y.Most]=true:=by kernel_rfl
theorem eqs_174 (x y:Diff):eqc [.int .i64 x.From,.int .i64 x.To,.int .i64 x.Most] [.int .i64 y.From,.int .i64 y.To,.int .i64 y.Most]=decide (x=y):=by rw [Bool.eq_iff_iff]; cases x; cases y; simp [eqc,eq1]
theorem fnok_21:FnOK Tryz.prog 21:=by unfold FnOK; rw [Tryz.func21]; rfl
theorem fnok_23:FnOK Tryz.prog 23:=by unfold FnOK; rw [Tryz.func23]; rfl
theorem fnok_24:FnOK Tryz.prog 24:=by unfold FnOK; rw [Tryz.func24]; rfl
theorem fnok_25:FnOK Tryz.prog 25:=by unfold FnOK; rw [Tryz.func25]; rfl
theorem fnok_226:FnOK Tryz.prog 226:=by unfold FnOK; rw [Tryz.func226]; rfl
theorem fnok_105:FnOK Tryz.prog 105:=by unfold FnOK; rw [Tryz.func105]; rfl
theorem fnok_106:FnOK Tryz.prog 106:=by unfold FnOK; rw [Tryz.func106]; rfl
theorem fnok_231:FnOK Tryz.prog 231:=by unfold FnOK; rw [Tryz.func231]; rfl
theorem fnok_230:FnOK Tryz.prog 230:=by unfold FnOK; rw [Tryz.func230]; rfl
theorem fnok_285:FnOK Tryz.prog 285:=by unfold FnOK; rw [Tryz.func285]; rfl
theorem fnok_302:FnOK Tryz.prog 302:=by unfold FnOK; rw [Tryz.func302]; rfl
theorem fnok_229:FnOK Tryz.prog 229:=by unfold FnOK; rw [Tryz.func229]; rfl
theorem fnok_188:FnOK Tryz.prog 188:=by unfold FnOK; rw [Tryz.func188]; rfl
theorem fnok_109:FnOK Tryz.prog 109:=by unfold FnOK; rw [Tryz.func109]; rfl
theorem fnok_110:FnOK Tryz.prog 110:=by unfold FnOK; rw [Tryz.func110]; rfl
theorem fnok_233:FnOK Tryz.prog 233:=by unfold FnOK; rw [Tryz.func233]; rfl
theorem fnok_112:FnOK Tryz.prog 112:=by unfold FnOK; rw [Tryz.func112]; rfl
theorem fnok_115:FnOK Tryz.prog 115:=by unfold FnOK; rw [Tryz.func115]; rfl
theorem fnok_32:FnOK Tryz.prog 32:=by unfold FnOK; rw [Tryz.func32]; rfl
theorem fnok_30:FnOK Tryz.prog 30:=by unfold FnOK; rw [Tryz.func30]; rfl
theorem fnok_118:FnOK Tryz.prog 118:=by unfold FnOK; rw [Tryz.func118]; rfl
theorem fnok_27:FnOK Tryz.prog 27:=by unfold FnOK; rw [Tryz.func27]; rfl
theorem fnok_28:FnOK Tryz.prog 28:=by unfold FnOK; rw [Tryz.func28]; rfl
theorem fnok_34:FnOK Tryz.prog 34:=by unfold FnOK; rw [Tryz.func34]; rfl
theorem fnok_35:FnOK Tryz.prog 35:=by unfold FnOK; rw [Tryz.func35]; rfl
theorem fnok_210:FnOK Tryz.prog 210:=by unfold FnOK; rw [Tryz.func210]; rfl
theorem fnok_123:FnOK Tryz.prog 123:=by unfold FnOK; rw [Tryz.func123]; rfl
theorem fnok_234:FnOK Tryz.prog 234:=by unfold FnOK; rw [Tryz.func234]; rfl
theorem fnok_47:FnOK Tryz.prog 47:=by unfold FnOK; rw [Tryz.func47]; rfl
theorem fnok_119:FnOK Tryz.prog 119:=by unfold FnOK; rw [Tryz.func119]; rfl
theorem fnok_94:FnOK Tryz.prog 94:=by unfold FnOK; rw [Tryz.func94]; rfl
theorem fnok_36:FnOK Tryz.prog 36:=by unfold FnOK; rw [Tryz.func36]; rfl
theorem fnok_37:FnOK Tryz.prog 37:=by unfold FnOK; rw [Tryz.func37]; rfl
theorem fnok_38:FnOK Tryz.prog 38:=by unfold FnOK; rw [Tryz.func38]; rfl
theorem fnok_41:FnOK Tryz.prog 41:=by unfold FnOK; rw [Tryz.func41]; rfl
theorem fnok_44:FnOK Tryz.prog 44:=by unfold FnOK; rw [Tryz.func44]; rfl
theorem fnok_45:FnOK Tryz.prog 45:=by unfold FnOK; rw [Tryz.func45]; rfl
theorem siz_128:Siz Tryz.prog 128 5 true:=⟨by kernel_rfl,by kernel_rfl,rfl⟩
theorem fnok_176:FnOK Tryz.prog 176:=by unfold FnOK; rw [Tryz.func176]; rfl
theorem fnok_67:FnOK Tryz.prog 67:=by unfold FnOK; rw [Tryz.func67]; rfl
theorem pla_132:Pla Tryz.prog 132 2 8 [(0,8),(8,8)]:=⟨30,by kernel_rfl,by kernel_rfl,rfl,rfl⟩
theorem zer_132:Zer Tryz.prog 132 (.agg #[(.slice none 0 0),(.slice none 0 0),(.int .i64 0),(.int .i64 0),(.int .i64 0),(.slice none 0 0),(.slice none 0 0),(.slice none 0 0),(.slice none 0 0),(.slice none 0 0),(.int .i64 0),(.int .i64 0),(.int .i64 0),(.slice none 0 0),(.slice none 0 0),(.slice none 0 0)]):=by unfold Zer; kernel_rfl
theorem slc_133:Slc Tryz.prog 133 132 16 288 (.agg #[(.slice none 0 0),(.slice none 0 0),(.int .i64 0),(.int .i64 0),(.int .i64 0),(.slice none 0 0),(.slice none 0 0),(.slice none 0 0),(.slice none 0 0),(.slice none 0 0),(.int .i64 0),(.int .i64 0),(.int .i64 0),(.slice none 0 0),(.slice none 0 0),(.slice none 0 0)]):=⟨by kernel_rfl,by kernel_rfl,rfl,by decide⟩
theorem siz_132:Siz Tryz.prog 132 16 true:=⟨by kernel_rfl,by kernel_rfl,rfl⟩
theorem arr_132:Arr Tryz.prog 132 2 8:=by unfold Arr; kernel_rfl
theorem fnok_68:FnOK Tryz.prog 68:=by unfold FnOK; rw [Tryz.func68]; rfl
theorem fsp_56 (x y:Cell):fsP Tryz.prog 56 [.int .i64 x.No,.int .i64 x.Height,.int .i64 x.Aspect,.int .i64 x.Area] [.int .i64 y.No,.int .i64 y.Height,.int .i64 y.Aspect,.int .i64 y.Area]=true:=by kernel_rfl
theorem eqs_56 (x y:Cell):eqc [.int .i64 x.No,.int .i64 x.Height,.int .i64 x.Aspect,.int .i64 x.Area] [.int .i64 y.No,.int .i64 y.Height,.int .i64 y.Aspect,.int .i64 y.Area]=decide (x=y):=by rw [Bool.eq_iff_iff]; cases x; cases y; simp [eqc,eq1]
theorem ar2_97:Ar2 Tryz.prog 97:=⟨3,by kernel_rfl,by kernel_rfl,by kernel_rfl,by kernel_rfl⟩
theorem eqa_97 (x y:Arr2_3):((x.a0,x.a1)==(y.a0,y.a1))=decide (x=y):=by rw [Bool.eq_iff_iff]; cases x; cases y; simp
theorem fsp_64 (x y:Sight):fsP Tryz.prog 64 [.int .i64 x.No,.int .i64 x.Cell,.int .i64 x.Day,.int .i64 x.Lo,.int .i64 x.Hi] [.int .i64 y.No,.int .i64 y.Cell,.int .i64 y.Day,.int .i64 y.Lo,.int .i64 y.Hi]=true:=by kernel_rfl
theorem eqs_64 (x y:Sight):eqc [.int .i64 x.No,.int .i64 x.Cell,.int .i64 x.Day,.int .i64 x.Lo,.int .i64 x.Hi] [.int .i64 y.No,.int .i64 y.Cell,.int .i64 y.Day,.int .i64 y.Lo,.int .i64 y.Hi]=decide (x=y):=by rw [Bool.eq_iff_iff]; cases x; cases y; simp [eqc,eq1]
theorem fsp_67 (x y:Change):fsP Tryz.prog 67 [.int .i64 x.Cell,.int .i64 x.From,.int .i64 x.To,.int .i64 x.Lo,.int .i64 x.Hi] [.int .i64 y.Cell,.int .i64 y.From,.int .i64 y.To,.int .i64 y.Lo,.int .i64 y.Hi]=true:=by kernel_rfl
theorem eqs_67 (x y:Change):eqc [.int .i64 x.Cell,.int .i64 x.From,.int .i64 x.To,.int .i64 x.Lo,.int .i64 x.Hi] [.int .i64 y.Cell,.int .i64 y.From,.int .i64 y.To,.int .i64 y.Lo,.int .i64 y.Hi]=decide (x=y):=by rw [Bool.eq_iff_iff]; cases x; cases y; simp [eqc,eq1]
theorem fnok_69:FnOK Tryz.prog 69:=by unfold FnOK; rw [Tryz.func69]; rfl
theorem fnok_70:FnOK Tryz.prog 70:=by unfold FnOK; rw [Tryz.func70]; rfl
theorem fnok_71:FnOK Tryz.prog 71:=by unfold FnOK; rw [Tryz.func71]; rfl
theorem fnok_72:FnOK Tryz.prog 72:=by unfold FnOK; rw [Tryz.func72]; rfl
theorem fnok_73:FnOK Tryz.prog 73:=by unfold FnOK; rw [Tryz.func73]; rfl
theorem fnok_77:FnOK Tryz.prog 77:=by unfold FnOK; rw [Tryz.func77]; rfl
theorem fnok_184:FnOK Tryz.prog 184:=by unfold FnOK; rw [Tryz.func184]; rfl
theorem fnok_281:FnOK Tryz.prog 281:=by unfold FnOK; rw [Tryz.func281]; rfl
theorem fnok_185:FnOK Tryz.prog 185:=by unfold FnOK; rw [Tryz.func185]; rfl
theorem fnok_186:FnOK Tryz.prog 186:=by unfold FnOK; rw [Tryz.func186]; rfl
theorem fnok_80:FnOK Tryz.prog 80:=by unfold FnOK; rw [Tryz.func80]; rfl
theorem fnok_187:FnOK Tryz.prog 187:=by unfold FnOK; rw [Tryz.func187]; rfl
theorem fnok_78:FnOK Tryz.prog 78:=by unfold FnOK; rw [Tryz.func78]; rfl
theorem fnok_79:FnOK Tryz.prog 79:=by unfold FnOK; rw [Tryz.func79]; rfl
theorem fnok_200:FnOK Tryz.prog 200:=by unfold FnOK; rw [Tryz.func200]; rfl
theorem fnok_193:FnOK Tryz.prog 193:=by unfold FnOK; rw [Tryz.func193]; rfl
theorem fnok_192:FnOK Tryz.prog 192:=by unfold FnOK; rw [Tryz.func192]; rfl
theorem fnok_82:FnOK Tryz.prog 82:=by unfold FnOK; rw [Tryz.func82]; rfl
theorem fnok_196:FnOK Tryz.prog 196:=by unfold FnOK; rw [Tryz.func196]; rfl
theorem fnok_195:FnOK Tryz.prog 195:=by unfold FnOK; rw [Tryz.func195]; rfl
theorem fnok_197:FnOK Tryz.prog 197:=by unfold FnOK; rw [Tryz.func197]; rfl
theorem fnok_198:FnOK Tryz.prog 198:=by unfold FnOK; rw [Tryz.func198]; rfl
theorem fnok_199:FnOK Tryz.prog 199:=by unfold FnOK; rw [Tryz.func199]; rfl
theorem fnok_86:FnOK Tryz.prog 86:=by unfold FnOK; rw [Tryz.func86]; rfl
theorem fnok_87:FnOK Tryz.prog 87:=by unfold FnOK; rw [Tryz.func87]; rfl
theorem fnok_88:FnOK Tryz.prog 88:=by unfold FnOK; rw [Tryz.func88]; rfl
theorem fnok_90:FnOK Tryz.prog 90:=by unfold FnOK; rw [Tryz.func90]; rfl
theorem fnok_89:FnOK Tryz.prog 89:=by unfold FnOK; rw [Tryz.func89]; rfl
theorem fnok_286:FnOK Tryz.prog 286:=by unfold FnOK; rw [Tryz.func286]; rfl
theorem fnok_287:FnOK Tryz.prog 287:=by unfold FnOK; rw [Tryz.func287]; rfl
theorem fnok_206:FnOK Tryz.prog 206:=by unfold FnOK; rw [Tryz.func206]; rfl
theorem fnok_207:FnOK Tryz.prog 207:=by unfold FnOK; rw [Tryz.func207]; rfl
theorem fnok_208:FnOK Tryz.prog 208:=by unfold FnOK; rw [Tryz.func208]; rfl
theorem fnok_92:FnOK Tryz.prog 92:=by unfold FnOK; rw [Tryz.func92]; rfl
theorem fnok_93:FnOK Tryz.prog 93:=by unfold FnOK; rw [Tryz.func93]; rfl
theorem slc_157:Slc Tryz.prog 157 35 1 24 (.slice none 0 0):=⟨by kernel_rfl,by kernel_rfl,rfl,by decide⟩
theorem fnok_334:FnOK Tryz.prog 334:=by unfold FnOK; rw [Tryz.func334]; rfl
theorem fnok_335:FnOK Tryz.prog 335:=by unfold FnOK; rw [Tryz.func335]; rfl
theorem fnok_336:FnOK Tryz.prog 336:=by unfold FnOK; rw [Tryz.func336]; rfl
theorem fnok_289:FnOK Tryz.prog 289:=by unfold FnOK; rw [Tryz.func289]; rfl
theorem fnok_290:FnOK Tryz.prog 290:=by unfold FnOK; rw [Tryz.func290]; rfl
theorem fnok_291:FnOK Tryz.prog 291:=by unfold FnOK; rw [Tryz.func291]; rfl
theorem fnok_211:FnOK Tryz.prog 211:=by unfold FnOK; rw [Tryz.func211]; rfl
theorem fnok_213:FnOK Tryz.prog 213:=by unfold FnOK; rw [Tryz.func213]; rfl
theorem fnok_212:FnOK Tryz.prog 212:=by unfold FnOK; rw [Tryz.func212]; rfl
theorem fnok_293:FnOK Tryz.prog 293:=by unfold FnOK; rw [Tryz.func293]; rfl
theorem fnok_295:FnOK Tryz.prog 295:=by unfold FnOK; rw [Tryz.func295]; rfl
theorem fnok_214:FnOK Tryz.prog 214:=by unfold FnOK; rw [Tryz.func214]; rfl
theorem fnok_215:FnOK Tryz.prog 215:=by unfold FnOK; rw [Tryz.func215]; rfl
theorem fnok_216:FnOK Tryz.prog 216:=by unfold FnOK; rw [Tryz.func216]; rfl
theorem fnok_217:FnOK Tryz.prog 217:=by unfold FnOK; rw [Tryz.func217]; rfl
theorem fnok_95:FnOK Tryz.prog 95:=by unfold FnOK; rw [Tryz.func95]; rfl
theorem fnok_96:FnOK Tryz.prog 96:=by unfold FnOK; rw [Tryz.func96]; rfl
theorem fnok_97:FnOK Tryz.prog 97:=by unfold FnOK; rw [Tryz.func97]; rfl
theorem fnok_98:FnOK Tryz.prog 98:=by unfold FnOK; rw [Tryz.func98]; rfl
theorem fnok_99:FnOK Tryz.prog 99:=by unfold FnOK; rw [Tryz.func99]; rfl
end Go.Proofs.YthlchdnbokhclaaGreat.Ql
namespace Go.Proofs.YthlchdnbokhclaaGreat.Ql
open Go Go.Proofs
structure Gr where
  lines:Option (List Diff)
  nodes:Option Int
structure GrOK (a:Gr) (t:Nat) (y:AV):Prop where
  lines : ∃ g, FnOK Tryz.prog g ∧ MethOK Tryz.prog t "snowline/diffs.lines" g ∧ ∀ r, a.lines = some r → CallOK Tryz.prog g [y] [] (.lst 3 (r.map Diff.cl)) []
  nodes : ∃ g, FnOK Tryz.prog g ∧ MethOK Tryz.prog t "snowline/diffs.nodes" g ∧ ∀ r, a.nodes = some r → CallOK Tryz.prog g [y] [] (Ai r) []
  yr:y.recv=true
  o:(AV.ifc t y).only []=true
end Go.Proofs.YthlchdnbokhclaaGreat.Ql
namespace Go.Proofs.YthlchdnbokhclaaGreat.Ql
open Go Go.Proofs
set_option maxRecDepth 100000
set_option maxHeartbeats 0
def f140 (K:Nat) (a0:Int) (a1:Int) (a2:Int):Option (Bool):=
  some ((decide (a0≥a1))&&(decide (a0≤a2)))
def f177 (K:Nat) (a0:Cell):Option (Bool):=
  Option.bind (
    (f140 K a0.No 0 4095).bind fun x5=>
    bif x5 then
      (f140 K a0.Height 0 9000).bind fun x9=>
      bif x9 then
        (f140 K a0.Aspect 0 7).bind fun x14=>
        bif x14 then
          (f140 K a0.Area 1 4096).bind fun x19=>
          some x19
        else
          some false
      else
        some false
    else
      some false) fun(v2:Bool)=>
  some v2
def f74 (K:Nat) (a0:Basin):Option (Int):=
  Option.bind (
    (f140 K (a0.Cells.length:Int) 1 12).bind fun x13=>
    bif x13 then
      some (decide ((a0.Pairs.length:Int)≤24))
    else
      some false) fun(v3:Bool)=>
  Option.bind (
    bif v3 then
      (f140 K a0.Gain 0 65536).bind fun x24=>
      bif x24 then
        (f140 K a0.Slack 0 65536).bind fun x29=>
        bif x29 then
          (f140 K a0.Deep 0 65536).bind fun x34=>
          some x34
        else
          some false
      else
        some false
    else
      some false) fun(v3_1:Bool)=>
  bif (!v3_1) then
    some 50
  else
    Jo (α:=Unit→Option (Int)) (fun(_:Unit)=>
      Jo (α:=Unit→Option (Int)) (fun(_:Unit)=>
        some 0) fun(j_1:Unit→Option (Int))=>
      rngL a0.Pairs ([]:List (Int × Int)) (fun(v70:Int) (vo6:List (Int × Int))=>
          j_1 ()) fun nx_1 x_1 v70 (vo6:List (Int × Int))=>
        Option.bind (
          (f140 K x_1.a0 0 (W ((a0.Cells.length:Int) - 1))).bind fun x80=>
          bif (!x80) then
            some true
          else
            (f140 K x_1.a1 0 (W ((a0.Cells.length:Int) - 1))).bind fun x89=>
            bif (!x89) then
              some true
            else
              bif (x_1.a0==x_1.a1) then
                some true
              else
                (ix a0.Cells x_1.a0).bind fun y=>
                (ix a0.Cells x_1.a1).bind fun y_1=>
                some (decide (y.Height > y_1.Height))) fun(v115:Bool)=>
        bif v115 then
          some 50
        else
          bif (vo6.contains ((if x_1.a1 < x_1.a0 then x_1.a1 else x_1.a0),(if x_1.a1 > x_1.a0 then x_1.a1 else x_1.a0))) then
            some 50
          else
            nx_1 (v70+1) (if vo6.contains ((if x_1.a1 < x_1.a0 then x_1.a1 else x_1.a0),(if x_1.a1 > x_1.a0 then x_1.a1 else x_1.a0)) then vo6 else vo6++[((if x_1.a1 < x_1.a0 then x_1.a1 else x_1.a0),(if x_1.a1 > x_1.a0 then x_1.a1 else x_1.a0))])) fun(j:Unit→Option (Int))=>
    rngL a0.Cells () (fun(v41:Int) (_:Unit)=>
        j ()) fun nx x v41 (_:Unit)=>
      Option.bind (
        (f177 K x).bind fun x47=>
        bif (!x47) then
          some true
        else
          bif (decide (v41 > 0)) then
            (ix a0.Cells (W (v41 - 1))).bind fun y_2=>
            some (decide (y_2.No≥x.No))
          else
            some false) fun(v64:Bool)=>
      bif v64 then
        some 50
      else
        nx (v41+1) ()
def f194 (K:Nat) (a0:List Int) (a1:Int):Option (Int):=
  Jo (α:=Unit→Option (Int)) (fun(_:Unit)=>
    some (-1)) fun(j:Unit→Option (Int))=>
  rngL a0 () (fun(v8:Int) (_:Unit)=>
      j ()) fun nx x v8 (_:Unit)=>
    bif (a1==x) then
      some v8
    else
      nx (v8+1) ()
def f83 (K:Nat) (a0:List Int) (a1:Int):Option (Bool):=
  (f194 K a0 a1).bind fun x7=>
  some (decide (x7≥0))
def f209 (K:Nat) (a0:List Cell) (a1:Cell→Option Bool):Option (Int):=
  Jo (α:=Unit→Option (Int)) (fun(_:Unit)=>
    some (-1)) fun(j:Unit→Option (Int))=>
  rngL a0 () (fun(v8:Int) (_:Unit)=>
      j ()) fun nx x v8 (_:Unit)=>
    (a1 x).bind fun x16=>
    bif x16 then
      some v8
    else
      nx (v8+1) ()
def f296 (K:Nat) (a0:Cell) (a1:Int):Option (Bool):=
  some (a0.No==a1)
def f221 (K:Nat) (a0:Basin) (a1:Int):Option (Int):=
  (f209 K a0.Cells (fun y0=>f296 K y0 a1)).bind fun x8=>
  some x8
def f130 (K:Nat) (a0:Scene) (a1:Sight):Option (Bool):=
  Option.bind (
    (f140 K a1.No 0 8191).bind fun x7=>
    bif x7 then
      (f221 K a0.Basin a1.Cell).bind fun x13=>
      bif (decide (x13≥0)) then
        (f83 K a0.Days a1.Day).bind fun x21=>
        bif x21 then
          bif (decide (0≤a1.Lo)) then
            bif (decide (a1.Lo≤a1.Hi)) then
              some (decide (a1.Hi≤65536))
            else
              some false
          else
            some false
        else
          some false
      else
        some false
    else
      some false) fun(v4:Bool)=>
  some v4
def f174 (K:Nat) (a0:List Int):Option (Bool):=
  Jo (α:=Unit→Option (Bool)) (fun(_:Unit)=>
    some true) fun(j:Unit→Option (Bool))=>
  rngN 1 (a0.length:Int) () (fun(v3:Int) (_:Unit)=>
      j ()) fun nx v3 (_:Unit)=>
    (ix a0 (W (v3 - 1))).bind fun y=>
    (ix a0 v3).bind fun y_1=>
    bif (decide (y≥y_1)) then
      some false
    else
      nx (v3+1) ()
def f175 (K:Nat) (a0:Scene) (a1:Change):Option (Bool):=
  Option.bind (
    bif (decide (a1.From < a1.To)) then
      (f83 K a0.Days a1.From).bind fun x16=>
      bif x16 then
        (f83 K a0.Days a1.To).bind fun x23=>
        some x23
      else
        some false
    else
      some false) fun(v5:Bool)=>
  Option.bind (
    bif v5 then
      (f221 K a0.Basin a1.Cell).bind fun x31=>
      bif (decide (x31≥0)) then
        bif (decide ((-65536)≤a1.Lo)) then
          bif (decide (a1.Lo≤a1.Hi)) then
            some (decide (a1.Hi≤65536))
          else
            some false
        else
          some false
      else
        some false
    else
      some false) fun(v4:Bool)=>
  some v4
def f66 (K:Nat) (a0:Scene):Option (Int):=
  (f74 K a0.Basin).bind fun x10=>
  bif (x10 != 0) then
    some x10
  else
    Option.bind (
      (f140 K (a0.Days.length:Int) 1 16).bind fun x17=>
      bif (!x17) then
        some true
      else
        (f174 K a0.Days).bind fun x22=>
        bif (!x22) then
          some true
        else
          (ix a0.Days 0).bind fun y=>
          bif (decide (y < 0)) then
            some true
          else
            (ix a0.Days (W ((a0.Days.length:Int) - 1))).bind fun y_1=>
            some (decide (y_1 > 1048576))) fun(v42:Bool)=>
    bif v42 then
      some 1
    else
      bif ((decide ((a0.Sights.length:Int) > 256))||(decide ((a0.Changes.length:Int) > 256))) then
        some 2
      else
        Jo (α:=Unit→Option (Int)) (fun(_:Unit)=>
          Jo (α:=Unit→Option (Int)) (fun(_:Unit)=>
            some 0) fun(j_1:Unit→Option (Int))=>
          rngL a0.Changes () (fun(v68:Int) (_:Unit)=>
              j_1 ()) fun nx_1 x_1 v68 (_:Unit)=>
            (f175 K a0 x_1).bind fun x74=>
            bif (!x74) then
              some 52
            else
              nx_1 (v68+1) ()) fun(j:Unit→Option (Int))=>
        rngL a0.Sights () (fun(v56:Int) (_:Unit)=>
            j ()) fun nx x v56 (_:Unit)=>
          (f130 K a0 x).bind fun x62=>
          bif (!x62) then
            some 51
          else
            nx (v56+1) ()
def f141 (K:Nat) (a0:Cell) (a1:Cell):Option (Bool):=
  some ((decide ((Int.tmod (W ((W (a0.Aspect - a1.Aspect))+8)) 8)≤1))||((Int.tmod (W ((W (a0.Aspect - a1.Aspect))+8)) 8)==7))
def f142 (K:Nat) (a0:Basin) (a1:Arr2_3):Option (Int):=
  (ix a0.Cells a1.a1).bind fun y=>
  (ix a0.Cells a1.a0).bind fun y_1=>
  some (W (a0.Slack+(W (Int.tdiv (W (a0.Gain*(W (y.Height - y_1.Height)))) 100))))
def f202 (K:Nat) (a0:Laid_basin) (a1:Int) (a2:Int):Option (Int):=
  some (W ((W (1+(W (a2*(a0.s.Basin.Cells.length:Int)))))+a1))
def f219 (K:Nat) (a0:Laid_basin) (a1:Int) (a2:Int) (a3:Int) (a4:Reason):Option (Laid_basin):=
  (app a0.net.Diffs ([(⟨a1,a2,a3⟩:Diff)]:List Diff)).bind fun z21=>
  (app a0.reasons ([a4]:List Reason)).bind fun z32=>
  some (⟨a0.s,(⟨a0.net.Nodes,z21⟩:Net),z32⟩:Laid_basin)
def f220 (K:Nat) (a0:Int) (a1:Int) (a2:Laid_basin) (a3:Basin) (a4:Scene):Option (Int):=
  (f221 K a3 a0).bind fun x11=>
  (f194 K a4.Days a1).bind fun x15=>
  (f202 K a2 x11 x15).bind fun x16=>
  some x16
def f102 (K:Nat) (a0:Scene):Option (Laid_basin):=
  Option.bind (
    rngL a0.Days (a0.Basin.Cells,a0.Basin.Pairs,a0.Basin.Gain,a0.Basin.Slack,a0.Basin.Deep,a0.Days,a0.Sights,a0.Changes,(W (1+(W ((a0.Days.length:Int)*(a0.Basin.Cells.length:Int))))),([]:List Diff),([]:List Reason)) (fun(v39:Int) ((voo4_0_0,voo4_0_1,voo4_0_2,voo4_0_3,voo4_0_4,voo4_0_5,voo4_0_6,voo4_0_7,voo4_0_8,vooo4_0_9,vooo4_0_10):List Cell × List Arr2_3 × Int × Int × Int × List Int × List Sight × List Change × Int × List Diff × List Reason)=>
        some (voo4_0_0,voo4_0_1,voo4_0_2,voo4_0_3,voo4_0_4,voo4_0_5,voo4_0_6,voo4_0_7,voo4_0_8,vooo4_0_9,vooo4_0_10)) fun nx x v39 ((voo4_0_0,voo4_0_1,voo4_0_2,voo4_0_3,voo4_0_4,voo4_0_5,voo4_0_6,voo4_0_7,voo4_0_8,vooo4_0_9,vooo4_0_10):List Cell × List Arr2_3 × Int × Int × Int × List Int × List Sight × List Change × Int × List Diff × List Reason)=>
      Option.bind (
        rngL a0.Basin.Cells (voo4_0_0,voo4_0_1,voo4_0_2,voo4_0_3,voo4_0_4,voo4_0_5,voo4_0_6,voo4_0_7,voo4_0_8,vooo4_0_9,vooo4_0_10) (fun(v47:Int) ((voo4_0_0_6,voo4_0_1_6,voo4_0_2_6,voo4_0_3_6,voo4_0_4_6,voo4_0_5_6,voo4_0_6_6,voo4_0_7_6,voo4_0_8_6,vooo4_0_9_6,vooo4_0_10_6):List Cell × List Arr2_3 × Int × Int × Int × List Int × List Sight × List Change × Int × List Diff × List Reason)=>
            some (voo4_0_0_6,voo4_0_1_6,voo4_0_2_6,voo4_0_3_6,voo4_0_4_6,voo4_0_5_6,voo4_0_6_6,voo4_0_7_6,voo4_0_8_6,vooo4_0_9_6,vooo4_0_10_6)) fun nx_3 x_3 v47 ((voo4_0_0_6,voo4_0_1_6,voo4_0_2_6,voo4_0_3_6,voo4_0_4_6,voo4_0_5_6,voo4_0_6_6,voo4_0_7_6,voo4_0_8_6,vooo4_0_9_6,vooo4_0_10_6):List Cell × List Arr2_3 × Int × Int × Int × List Int × List Sight × List Change × Int × List Diff × List Reason)=>
          (f202 K (⟨(⟨(⟨voo4_0_0_6,voo4_0_1_6,voo4_0_2_6,voo4_0_3_6,voo4_0_4_6⟩:Basin),voo4_0_5_6,voo4_0_6_6,voo4_0_7_6⟩:Scene),(⟨voo4_0_8_6,vooo4_0_9_6⟩:Net),vooo4_0_10_6⟩:Laid_basin) v47 v39).bind fun x56=>
          (f219 K (⟨(⟨(⟨voo4_0_0_6,voo4_0_1_6,voo4_0_2_6,voo4_0_3_6,voo4_0_4_6⟩:Basin),voo4_0_5_6,voo4_0_6_6,voo4_0_7_6⟩:Scene),(⟨voo4_0_8_6,vooo4_0_9_6⟩:Net),vooo4_0_10_6⟩:Laid_basin) 0 x56 a0.Basin.Deep (⟨1,x_3.No,x,false⟩:Reason)).bind fun x63=>
          (f202 K x63 v47 v39).bind fun x68=>
          (f219 K x63 x68 0 0 (⟨2,x_3.No,x,false⟩:Reason)).bind fun x73=>
          nx_3 (v47+1) (x73.s.Basin.Cells,x73.s.Basin.Pairs,x73.s.Basin.Gain,x73.s.Basin.Slack,x73.s.Basin.Deep,x73.s.Days,x73.s.Sights,x73.s.Changes,x73.net.Nodes,x73.net.Diffs,x73.reasons)) fun((voo4_0_0_7,voo4_0_1_7,voo4_0_2_7,voo4_0_3_7,voo4_0_4_7,voo4_0_5_7,voo4_0_6_7,voo4_0_7_7,voo4_0_8_7,vooo4_0_9_7,vooo4_0_10_7):List Cell × List Arr2_3 × Int × Int × Int × List Int × List Sight × List Change × Int × List Diff × List Reason)=>
      Option.bind (
        rngL a0.Basin.Pairs (voo4_0_0_7,voo4_0_1_7,voo4_0_2_7,voo4_0_3_7,voo4_0_4_7,voo4_0_5_7,voo4_0_6_7,voo4_0_7_7,voo4_0_8_7,vooo4_0_9_7,vooo4_0_10_7) (fun(v78:Int) ((voo4_0_0_8,voo4_0_1_8,voo4_0_2_8,voo4_0_3_8,voo4_0_4_8,voo4_0_5_8,voo4_0_6_8,voo4_0_7_8,voo4_0_8_8,vooo4_0_9_8,vooo4_0_10_8):List Cell × List Arr2_3 × Int × Int × Int × List Int × List Sight × List Change × Int × List Diff × List Reason)=>
            some (voo4_0_0_8,voo4_0_1_8,voo4_0_2_8,voo4_0_3_8,voo4_0_4_8,voo4_0_5_8,voo4_0_6_8,voo4_0_7_8,voo4_0_8_8,vooo4_0_9_8,vooo4_0_10_8)) fun nx_4 x_4 v78 ((voo4_0_0_8,voo4_0_1_8,voo4_0_2_8,voo4_0_3_8,voo4_0_4_8,voo4_0_5_8,voo4_0_6_8,voo4_0_7_8,voo4_0_8_8,vooo4_0_9_8,vooo4_0_10_8):List Cell × List Arr2_3 × Int × Int × Int × List Int × List Sight × List Change × Int × List Diff × List Reason)=>
          Option.bind (
            (ix a0.Basin.Cells x_4.a0).bind fun y=>
            (ix a0.Basin.Cells x_4.a1).bind fun y_1=>
            (f141 K y y_1).bind fun x97=>
            bif (!x97) then
              some (voo4_0_0_8,voo4_0_1_8,voo4_0_2_8,voo4_0_3_8,voo4_0_4_8,voo4_0_5_8,voo4_0_6_8,voo4_0_7_8,voo4_0_8_8,vooo4_0_9_8,vooo4_0_10_8)
            else
              Lt (bif (y.Height==y_1.Height) then a0.Basin.Slack else 0) fun v13=>
              (f202 K (⟨(⟨(⟨voo4_0_0_8,voo4_0_1_8,voo4_0_2_8,voo4_0_3_8,voo4_0_4_8⟩:Basin),voo4_0_5_8,voo4_0_6_8,voo4_0_7_8⟩:Scene),(⟨voo4_0_8_8,vooo4_0_9_8⟩:Net),vooo4_0_10_8⟩:Laid_basin) x_4.a0 v39).bind fun x111=>
              (f202 K (⟨(⟨(⟨voo4_0_0_8,voo4_0_1_8,voo4_0_2_8,voo4_0_3_8,voo4_0_4_8⟩:Basin),voo4_0_5_8,voo4_0_6_8,voo4_0_7_8⟩:Scene),(⟨voo4_0_8_8,vooo4_0_9_8⟩:Net),vooo4_0_10_8⟩:Laid_basin) x_4.a1 v39).bind fun x116=>
              (f142 K a0.Basin x_4).bind fun x119=>
              (f219 K (⟨(⟨(⟨voo4_0_0_8,voo4_0_1_8,voo4_0_2_8,voo4_0_3_8,voo4_0_4_8⟩:Basin),voo4_0_5_8,voo4_0_6_8,voo4_0_7_8⟩:Scene),(⟨voo4_0_8_8,vooo4_0_9_8⟩:Net),vooo4_0_10_8⟩:Laid_basin) x111 x116 x119 (⟨3,v78,x,false⟩:Reason)).bind fun x123=>
              (f202 K x123 x_4.a1 v39).bind fun x129=>
              (f202 K x123 x_4.a0 v39).bind fun x134=>
              (f219 K x123 x129 x134 v13 (⟨4,v78,x,false⟩:Reason)).bind fun x139=>
              some (x139.s.Basin.Cells,x139.s.Basin.Pairs,x139.s.Basin.Gain,x139.s.Basin.Slack,x139.s.Basin.Deep,x139.s.Days,x139.s.Sights,x139.s.Changes,x139.net.Nodes,x139.net.Diffs,x139.reasons)) fun((voo4_0_0_10,voo4_0_1_10,voo4_0_2_10,voo4_0_3_10,voo4_0_4_10,voo4_0_5_10,voo4_0_6_10,voo4_0_7_10,voo4_0_8_10,vooo4_0_9_10,vooo4_0_10_10):List Cell × List Arr2_3 × Int × Int × Int × List Int × List Sight × List Change × Int × List Diff × List Reason)=>
          nx_4 (v78+1) (voo4_0_0_10,voo4_0_1_10,voo4_0_2_10,voo4_0_3_10,voo4_0_4_10,voo4_0_5_10,voo4_0_6_10,voo4_0_7_10,voo4_0_8_10,vooo4_0_9_10,vooo4_0_10_10)) fun((voo4_0_0_9,voo4_0_1_9,voo4_0_2_9,voo4_0_3_9,voo4_0_4_9,voo4_0_5_9,voo4_0_6_9,voo4_0_7_9,voo4_0_8_9,vooo4_0_9_9,vooo4_0_10_9):List Cell × List Arr2_3 × Int × Int × Int × List Int × List Sight × List Change × Int × List Diff × List Reason)=>
      nx (v39+1) (voo4_0_0_9,voo4_0_1_9,voo4_0_2_9,voo4_0_3_9,voo4_0_4_9,voo4_0_5_9,voo4_0_6_9,voo4_0_7_9,voo4_0_8_9,vooo4_0_9_9,vooo4_0_10_9)) fun((voo4_0_0_1,voo4_0_1_1,voo4_0_2_1,voo4_0_3_1,voo4_0_4_1,voo4_0_5_1,voo4_0_6_1,voo4_0_7_1,voo4_0_8_1,vooo4_0_9_1,vooo4_0_10_1):List Cell × List Arr2_3 × Int × Int × Int × List Int × List Sight × List Change × Int × List Diff × List Reason)=>
  Option.bind (
    rngL a0.Sights (voo4_0_0_1,voo4_0_1_1,voo4_0_2_1,voo4_0_3_1,voo4_0_4_1,voo4_0_5_1,voo4_0_6_1,voo4_0_7_1,voo4_0_8_1,vooo4_0_9_1,vooo4_0_10_1) (fun(v146:Int) ((voo4_0_0_2,voo4_0_1_2,voo4_0_2_2,voo4_0_3_2,voo4_0_4_2,voo4_0_5_2,voo4_0_6_2,voo4_0_7_2,voo4_0_8_2,vooo4_0_9_2,vooo4_0_10_2):List Cell × List Arr2_3 × Int × Int × Int × List Int × List Sight × List Change × Int × List Diff × List Reason)=>
        some (voo4_0_0_2,voo4_0_1_2,voo4_0_2_2,voo4_0_3_2,voo4_0_4_2,voo4_0_5_2,voo4_0_6_2,voo4_0_7_2,voo4_0_8_2,vooo4_0_9_2,vooo4_0_10_2)) fun nx_1 x_1 v146 ((voo4_0_0_2,voo4_0_1_2,voo4_0_2_2,voo4_0_3_2,voo4_0_4_2,voo4_0_5_2,voo4_0_6_2,voo4_0_7_2,voo4_0_8_2,vooo4_0_9_2,vooo4_0_10_2):List Cell × List Arr2_3 × Int × Int × Int × List Int × List Sight × List Change × Int × List Diff × List Reason)=>
      (f220 K x_1.Cell x_1.Day (⟨(⟨(⟨voo4_0_0_2,voo4_0_1_2,voo4_0_2_2,voo4_0_3_2,voo4_0_4_2⟩:Basin),voo4_0_5_2,voo4_0_6_2,voo4_0_7_2⟩:Scene),(⟨voo4_0_8_2,vooo4_0_9_2⟩:Net),vooo4_0_10_2⟩:Laid_basin) a0.Basin a0).bind fun x156=>
      (f219 K (⟨(⟨(⟨voo4_0_0_2,voo4_0_1_2,voo4_0_2_2,voo4_0_3_2,voo4_0_4_2⟩:Basin),voo4_0_5_2,voo4_0_6_2,voo4_0_7_2⟩:Scene),(⟨voo4_0_8_2,vooo4_0_9_2⟩:Net),vooo4_0_10_2⟩:Laid_basin) 0 x156 x_1.Hi (⟨5,v146,0,true⟩:Reason)).bind fun x163=>
      (f219 K x163 x156 0 (W (-x_1.Lo)) (⟨5,v146,0,false⟩:Reason)).bind fun x171=>
      nx_1 (v146+1) (x171.s.Basin.Cells,x171.s.Basin.Pairs,x171.s.Basin.Gain,x171.s.Basin.Slack,x171.s.Basin.Deep,x171.s.Days,x171.s.Sights,x171.s.Changes,x171.net.Nodes,x171.net.Diffs,x171.reasons)) fun((voo4_0_0_3,voo4_0_1_3,voo4_0_2_3,voo4_0_3_3,voo4_0_4_3,voo4_0_5_3,voo4_0_6_3,voo4_0_7_3,voo4_0_8_3,vooo4_0_9_3,vooo4_0_10_3):List Cell × List Arr2_3 × Int × Int × Int × List Int × List Sight × List Change × Int × List Diff × List Reason)=>
  Option.bind (
    rngL a0.Changes (voo4_0_0_3,voo4_0_1_3,voo4_0_2_3,voo4_0_3_3,voo4_0_4_3,voo4_0_5_3,voo4_0_6_3,voo4_0_7_3,voo4_0_8_3,vooo4_0_9_3,vooo4_0_10_3) (fun(v176:Int) ((voo4_0_0_4,voo4_0_1_4,voo4_0_2_4,voo4_0_3_4,voo4_0_4_4,voo4_0_5_4,voo4_0_6_4,voo4_0_7_4,voo4_0_8_4,vooo4_0_9_4,vooo4_0_10_4):List Cell × List Arr2_3 × Int × Int × Int × List Int × List Sight × List Change × Int × List Diff × List Reason)=>
        some (voo4_0_0_4,voo4_0_1_4,voo4_0_2_4,voo4_0_3_4,voo4_0_4_4,voo4_0_5_4,voo4_0_6_4,voo4_0_7_4,voo4_0_8_4,vooo4_0_9_4,vooo4_0_10_4)) fun nx_2 x_2 v176 ((voo4_0_0_4,voo4_0_1_4,voo4_0_2_4,voo4_0_3_4,voo4_0_4_4,voo4_0_5_4,voo4_0_6_4,voo4_0_7_4,voo4_0_8_4,vooo4_0_9_4,vooo4_0_10_4):List Cell × List Arr2_3 × Int × Int × Int × List Int × List Sight × List Change × Int × List Diff × List Reason)=>
      (f220 K x_2.Cell x_2.From (⟨(⟨(⟨voo4_0_0_4,voo4_0_1_4,voo4_0_2_4,voo4_0_3_4,voo4_0_4_4⟩:Basin),voo4_0_5_4,voo4_0_6_4,voo4_0_7_4⟩:Scene),(⟨voo4_0_8_4,vooo4_0_9_4⟩:Net),vooo4_0_10_4⟩:Laid_basin) a0.Basin a0).bind fun x186=>
      (f220 K x_2.Cell x_2.To (⟨(⟨(⟨voo4_0_0_4,voo4_0_1_4,voo4_0_2_4,voo4_0_3_4,voo4_0_4_4⟩:Basin),voo4_0_5_4,voo4_0_6_4,voo4_0_7_4⟩:Scene),(⟨voo4_0_8_4,vooo4_0_9_4⟩:Net),vooo4_0_10_4⟩:Laid_basin) a0.Basin a0).bind fun x192=>
      (f219 K (⟨(⟨(⟨voo4_0_0_4,voo4_0_1_4,voo4_0_2_4,voo4_0_3_4,voo4_0_4_4⟩:Basin),voo4_0_5_4,voo4_0_6_4,voo4_0_7_4⟩:Scene),(⟨voo4_0_8_4,vooo4_0_9_4⟩:Net),vooo4_0_10_4⟩:Laid_basin) x186 x192 x_2.Hi (⟨6,v176,0,true⟩:Reason)).bind fun x200=>
      (f219 K x200 x192 x186 (W (-x_2.Lo)) (⟨6,v176,0,false⟩:Reason)).bind fun x209=>
      nx_2 (v176+1) (x209.s.Basin.Cells,x209.s.Basin.Pairs,x209.s.Basin.Gain,x209.s.Basin.Slack,x209.s.Basin.Deep,x209.s.Days,x209.s.Sights,x209.s.Changes,x209.net.Nodes,x209.net.Diffs,x209.reasons)) fun((voo4_0_0_5,voo4_0_1_5,voo4_0_2_5,voo4_0_3_5,voo4_0_4_5,voo4_0_5_5,voo4_0_6_5,voo4_0_7_5,voo4_0_8_5,vooo4_0_9_5,vooo4_0_10_5):List Cell × List Arr2_3 × Int × Int × Int × List Int × List Sight × List Change × Int × List Diff × List Reason)=>
  some (⟨(⟨(⟨voo4_0_0_5,voo4_0_1_5,voo4_0_2_5,voo4_0_3_5,voo4_0_4_5⟩:Basin),voo4_0_5_5,voo4_0_6_5,voo4_0_7_5⟩:Scene),(⟨voo4_0_8_5,vooo4_0_9_5⟩:Net),vooo4_0_10_5⟩:Laid_basin)
def f22 (K:Nat) (a0:Scene):Option (Net × List Reason × Int):=
  (f66 K a0).bind fun x8=>
  bif (x8 != 0) then
    some ((⟨0,([]:List Diff)⟩:Net),([]:List Reason),x8)
  else
    (f102 K a0).bind fun x14=>
    some (x14.net,x14.reasons,0)
def f282 (K:Nat) (a0:Int) (a1:Int) (a2:Int):Option (Bool):=
  some ((decide (a0≥a1))&&(decide (a0≤a2)))
def f301 (K:Nat) (a0:Diff) (a1:Int):Option (Bool):=
  Option.bind (
    (f282 K a0.From 0 (W (a1 - 1))).bind fun x9=>
    bif x9 then
      (f282 K a0.To 0 (W (a1 - 1))).bind fun x15=>
      bif x15 then
        (f282 K a0.Most (-1073741824) 1073741824).bind fun x20=>
        some x20
      else
        some false
    else
      some false) fun(v4:Bool)=>
  some v4
def f227 (K:Nat) (a0:Net):Option (Int):=
  Option.bind (
    (f282 K a0.Nodes 1 256).bind fun x7=>
    bif (!x7) then
      some true
    else
      some (decide ((a0.Diffs.length:Int) > 4096))) fun(v14:Bool)=>
  bif v14 then
    some 40
  else
    Jo (α:=Unit→Option (Int)) (fun(_:Unit)=>
      some 0) fun(j:Unit→Option (Int))=>
    rngL a0.Diffs () (fun(v18:Int) (_:Unit)=>
        j ()) fun nx x v18 (_:Unit)=>
      (f301 K x a0.Nodes).bind fun x25=>
      bif (!x25) then
        some 40
      else
        nx (v18+1) ()
def f339 (K:Nat) (a0:List Bool) (a1:Bool):Option (Int):=
  Jo (α:=Unit→Option (Int)) (fun(_:Unit)=>
    some (-1)) fun(j:Unit→Option (Int))=>
  rngL a0 () (fun(v8:Int) (_:Unit)=>
      j ()) fun nx x v8 (_:Unit)=>
    bif (a1==x) then
      some v8
    else
      nx (v8+1) ()
def f297 (K:Nat) (a0:List Bool) (a1:Bool):Option (Bool):=
  (f339 K a0 a1).bind fun x7=>
  some (decide (x7≥0))
def f223 (K:Nat) (a0:Net) (a1:List Bool):Option (Int):=
  (f227 K a0).bind fun x7=>
  bif (x7 != 0) then
    some x7
  else
    (f297 K a1 false).bind fun x12=>
    bif x12 then
      some 1
    else
      some 0
def f337 (K:Nat) (a0:List Int) (a1:Int→Option Bool):Option (Int):=
  Jo (α:=Unit→Option (Int)) (fun(_:Unit)=>
    some (-1)) fun(j:Unit→Option (Int))=>
  rngL a0 () (fun(v8:Int) (_:Unit)=>
      j ()) fun nx x v8 (_:Unit)=>
    (a1 x).bind fun x16=>
    bif x16 then
      some v8
    else
      nx (v8+1) ()
def f292 (K:Nat) (a0:List Int) (a1:Int→Option Bool):Option (Bool):=
  (f337 K a0 a1).bind fun x7=>
  some (decide (x7≥0))
def f298 (K:Nat) (a0:Int):Option (Bool):=
  (f282 K a0 (-1099511627776) 1099511627776).bind fun x4=>
  some (!x4)
def f224 (K:Nat) (a0:Int) (a1:List Int):Option (Bool):=
  Option.bind (
    bif ((a1.length:Int)==a0) then
      (f292 K a1 (fun y0=>f298 K y0)).bind fun x11=>
      some (!x11)
    else
      some false) fun(v4:Bool)=>
  some v4
def f340 (K:Nat) (a0:List Diff) (a1:Diff→Option Bool):Option (Int):=
  Jo (α:=Unit→Option (Int)) (fun(_:Unit)=>
    some (-1)) fun(j:Unit→Option (Int))=>
  rngL a0 () (fun(v8:Int) (_:Unit)=>
      j ()) fun nx x v8 (_:Unit)=>
    (a1 x).bind fun x16=>
    bif x16 then
      some v8
    else
      nx (v8+1) ()
def f299 (K:Nat) (a0:List Diff) (a1:Diff→Option Bool):Option (Bool):=
  (f340 K a0 a1).bind fun x7=>
  some (decide (x7≥0))
def f300 (K:Nat) (a0:Diff) (a1:List Int):Option (Bool):=
  (ix a1 a0.To).bind fun y=>
  (ix a1 a0.From).bind fun y_1=>
  some (decide ((W (y - y_1)) > a0.Most))
def f225 (K:Nat) (a0:Net) (a1:List Int):Option (Bool):=
  Option.bind (
    (ix a1 0).bind fun y=>
    bif (y==0) then
      (f299 K a0.Diffs (fun y0=>f300 K y0 a1)).bind fun x13=>
      some (!x13)
    else
      some false) fun(v4:Bool)=>
  some v4
def f104 (K:Nat) (a0:Net) (a1:List Int):Option (Bool × Int):=
  (f224 K a0.Nodes a1).bind fun x11=>
  (f223 K a0 ([x11]:List Bool)).bind fun x13=>
  bif (x13 != 0) then
    some (false,x13)
  else
    (f225 K a0 a1).bind fun x19=>
    some (x19,0)
def f26 (K:Nat) (a0:Scene) (a1:List (List Int)):Option (Int):=
  (f66 K a0).bind fun x12=>
  bif (x12 != 0) then
    some x12
  else
    bif ((a1.length:Int) != (a0.Days.length:Int)) then
      some 53
    else
      Jo (α:=List Int→Option (Int)) (fun(vo6_1:List Int)=>
        (f102 K a0).bind fun x42=>
        (f104 K x42.net vo6_1).bind fun(x47_0,x47_1)=>
        bif ((x47_1 != 0)||(!x47_0)) then
          some 53
        else
          some 0) fun(j:List Int→Option (Int))=>
      rngL a1 ([0]:List Int) (fun(v25:Int) (vo6:List Int)=>
          j vo6) fun nx x v25 (vo6:List Int)=>
        bif ((x.length:Int) != (a0.Basin.Cells.length:Int)) then
          some 53
        else
          (app vo6 x).bind fun z38=>
          nx (v25+1) z38
def f113 (K:Nat) (a0:Scene) (a1:List Int) (a2:Int):Option (List Spot_basin × Int):=
  (f66 K a0).bind fun x15=>
  bif (x15 != 0) then
    some (([]:List Spot_basin),x15)
  else
    (f194 K a0.Days a2).bind fun x22=>
    Option.bind (
      bif (decide (x22 < 0)) then
        some true
      else
        bif ((a1.length:Int)==0) then
          some true
        else
          (f174 K a1).bind fun x32=>
          some (!x32)) fun(v34:Bool)=>
    bif v34 then
      some (([]:List Spot_basin),1)
    else
      Jo (α:=List Spot_basin→Option (List Spot_basin × Int)) (fun(vo10_1:List Spot_basin)=>
        some (vo10_1,0)) fun(j:List Spot_basin→Option (List Spot_basin × Int))=>
      rngL a1 ([]:List Spot_basin) (fun(v37:Int) (vo10:List Spot_basin)=>
          j vo10) fun nx x v37 (vo10:List Spot_basin)=>
        (f221 K a0.Basin x).bind fun x44=>
        bif (decide (x44 < 0)) then
          some (([]:List Spot_basin),1)
        else
          (app vo10 ([(⟨x44,x22⟩:Spot_basin)]:List Spot_basin)).bind fun z52=>
          nx (v37+1) z52
def f85 (K:Nat) (a0:List Int):Option (List Int):=
  app ([]:List Int) a0
def f218 (K:Nat) (a0:Laid_basin) (a1:List Int):Option (List (List Int)):=
  Option.bind (
    rngN 0 (a0.s.Days.length:Int) ([]:List (List Int)) (fun(v20:Int) (vo4:List (List Int))=>
        some vo4) fun nx v20 (vo4:List (List Int))=>
      (sub a1 (W (1+(W (v20*(a0.s.Basin.Cells.length:Int))))) (W (1+(W ((W (v20+1))*(a0.s.Basin.Cells.length:Int)))))).bind fun z34=>
      (f85 K z34).bind fun x35=>
      (app vo4 ([x35]:List (List Int))).bind fun z37=>
      nx (v20+1) z37) fun(vo4_1:List (List Int))=>
  some vo4_1
def f107 (K:Nat) (a0:Scene) (a1:Net→Option (List Int × Int)):Option (List (List Int) × Int):=
  (f66 K a0).bind fun x11=>
  bif (x11 != 0) then
    some (([]:List (List Int)),x11)
  else
    (f102 K a0).bind fun x16=>
    (a1 x16.net).bind fun(x23_0,x23_1)=>
    bif (x23_1 != 0) then
      some (([]:List (List Int)),x23_1)
    else
      (f218 K x16 x23_0).bind fun x31=>
      some (x31,0)
def f368 (K:Nat) (a0:Int) (a1:Int):Option (Int × Int):=
  some ((IntKind.wrap .u64 ((IntKind.wrap .u64 ((IntKind.wrap .u64 ((shrU a0 32)*(shrU a1 32)))+(shrU (IntKind.wrap .u64 ((IntKind.wrap .u64 ((shrU a0 32)*(andU a1 4294967295)))+(shrU (IntKind.wrap .u64 ((andU a0 4294967295)*(andU a1 4294967295))) 32))) 32)))+(shrU (IntKind.wrap .u64 ((andU (IntKind.wrap .u64 ((IntKind.wrap .u64 ((shrU a0 32)*(andU a1 4294967295)))+(shrU (IntKind.wrap .u64 ((andU a0 4294967295)*(andU a1 4294967295))) 32))) 4294967295)+(IntKind.wrap .u64 ((andU a0 4294967295)*(shrU a1 32))))) 32))),(IntKind.wrap .u64 (a0*a1)))
def f361 (K:Nat) (a0:Int) (a1:Int):Option (Int × Int):=
  (f368 K a0 a1).bind fun(x25_0,x25_1)=>
  some (x25_0,x25_1)
def f343 (K:Nat) (a0:List Int) (a1:Int):Option (List Int):=
  bif (decide (a1 < 0)) then
    none
  else
    (f361 K (IntKind.wrap .u64 (a0.length:Int)) (IntKind.wrap .u64 a1)).bind fun(x18_0,x18_1)=>
    bif ((decide (x18_0 > 0))||(decide (x18_1 > 9223372036854775807))) then
      none
    else
      (mk (IntKind.wrap .i64 x18_1) 0).bind fun z30=>
      Option.bind (
        whl (fun nx ((vo7,v8):List Int × Int)=>
          bif (decide (v8 < (vo7.length:Int))) then
            (bnds v8 (vo7.length:Int) vo7.length).bind fun _=>
            (bnds 0 v8 vo7.length).bind fun _=>
            (vcp vo7 v8 (vo7.length:Int) 0 v8).bind fun z45=>
            nx (z45,(W (v8+((Min.min (Int.toNat v8 - Int.toNat 0) (Int.toNat (vo7.length:Int) - Int.toNat v8):Nat):Int))))
          else
            some vo7) K ((a0.take z30.length++z30.drop a0.length),((Min.min a0.length z30.length:Nat):Int))) fun(vo7_1:List Int)=>
      some vo7_1
def f344 (K:Nat) (a0:Tree_diffs) (a1:List Diff) (a2:Int):Option (Int):=
  Jo (α:=Int→Option (Int)) (fun(v2_1:Int)=>
    some v2_1) fun(j:Int→Option (Int))=>
  rngN 0 (a0.last.length:Int) a2 (fun(v10:Int) (v2:Int)=>
      j v2) fun nx v10 (v2:Int)=>
    (ix a0.last v2).bind fun y=>
    bif (decide (y < 0)) then
      some (-1)
    else
      (ix a1 y).bind fun y_1=>
      nx (v10+1) y_1.From
def f311 (K:Nat) (a0:Gr) (a1:List Int):Option (Tree_diffs × Int):=
  (a0.lines).bind fun x15=>
  (a0.nodes).bind fun x17=>
  (mk x17 0).bind fun z18=>
  (a0.nodes).bind fun x20=>
  (mk x20 false).bind fun z21=>
  (a0.nodes).bind fun x24=>
  (f343 K ([(-1)]:List Int) x24).bind fun x25=>
  Option.bind (
    rngL a1 z21 (fun(v29:Int) (voo7_1:List Bool)=>
        some voo7_1) fun nx x v29 (voo7_1:List Bool)=>
      (ix voo7_1 x).bind fun y_8=>
      nx (v29+1) (voo7_1.set (Int.toNat x) true)) fun(voo7_1_1:List Bool)=>
  whl (fun nx_1 ((voo7_0,voo7_1_2,voo7_2):List Int × List Bool × List Int)=>
    Option.bind (
      rngL x15 (voo7_0,voo7_1_2,voo7_2,(-1)) (fun(v40:Int) ((voo7_0_1,voo7_1_3,voo7_2_1,v10):List Int × List Bool × List Int × Int)=>
          some (voo7_0_1,voo7_1_3,voo7_2_1,v10)) fun nx_2 x_1 v40 ((voo7_0_1,voo7_1_3,voo7_2_1,v10):List Int × List Bool × List Int × Int)=>
        Option.bind (
          (ix voo7_1_3 x_1.From).bind fun y_4=>
          bif y_4 then
            (ix voo7_1_3 x_1.To).bind fun y_5=>
            bif (!y_5) then
              some true
            else
              (ix voo7_0_1 x_1.From).bind fun y_6=>
              (ix voo7_0_1 x_1.To).bind fun y_7=>
              some (decide ((W (y_6+x_1.Most)) < y_7))
          else
            some false) fun(v77:Bool)=>
        Option.bind (
          bif v77 then
            (ix voo7_0_1 x_1.From).bind fun y=>
            (ix voo7_0_1 x_1.To).bind fun y_1=>
            (ix voo7_1_3 x_1.To).bind fun y_2=>
            (ix voo7_2_1 x_1.To).bind fun y_3=>
            some ((voo7_0_1.set (Int.toNat x_1.To) (W (y+x_1.Most))),(voo7_1_3.set (Int.toNat x_1.To) true),(voo7_2_1.set (Int.toNat x_1.To) v40),x_1.To)
          else
            some (voo7_0_1,voo7_1_3,voo7_2_1,v10)) fun((voo7_0_3,voo7_1_5,voo7_2_3,v10_2):List Int × List Bool × List Int × Int)=>
        nx_2 (v40+1) (voo7_0_3,voo7_1_5,voo7_2_3,v10_2)) fun((voo7_0_2,voo7_1_4,voo7_2_2,v10_1):List Int × List Bool × List Int × Int)=>
    bif (decide (v10_1 < 0)) then
      some ((⟨voo7_0_2,voo7_1_4,voo7_2_2⟩:Tree_diffs),(-1))
    else
      (f344 K (⟨voo7_0_2,voo7_1_4,voo7_2_2⟩:Tree_diffs) x15 v10_1).bind fun x112=>
      bif (decide (x112≥0)) then
        some ((⟨voo7_0_2,voo7_1_4,voo7_2_2⟩:Tree_diffs),x112)
      else
        nx_1 (voo7_0_2,voo7_1_4,voo7_2_2)) K (z18,voo7_1_1,x25)
def f312 (K:Nat) (a0:Gr):Option (List Int):=
  (a0.nodes).bind fun x6=>
  Option.bind (
    rngN 0 x6 ([]:List Int) (fun(v7:Int) (vo3:List Int)=>
        some vo3) fun nx v7 (vo3:List Int)=>
      (app vo3 ([v7]:List Int)).bind fun z13=>
      nx (v7+1) z13) fun(vo3_1:List Int)=>
  some vo3_1
def f251 (K:Nat) (a0:Gr):Option (List Int × Tree_diffs × Int):=
  (f312 K a0).bind fun x12=>
  (f311 K a0 x12).bind fun(x13_0,x13_1)=>
  bif (decide (x13_1≥0)) then
    some (([]:List Int),x13_0,x13_1)
  else
    (f85 K x13_0.long).bind fun x22=>
    Option.bind (
      rngN 0 (x22.length:Int) x22 (fun(v25:Int) (vo7:List Int)=>
          some vo7) fun nx v25 (vo7:List Int)=>
        (ix vo7 v25).bind fun y=>
        (ix x13_0.long 0).bind fun y_1=>
        nx (v25+1) (vo7.set (Int.toNat v25) (W (y - y_1)))) fun(vo7_1:List Int)=>
    some (vo7_1,x13_0,(-1))
def f386 (K:Nat) (a0:Plain_diffs):Option (List Diff):=
  some a0.Net.Diffs
def f387 (K:Nat) (a0:Plain_diffs):Option (Int):=
  some a0.Net.Nodes
def f288 (K:Nat) (a0:Net) (a1:Int):Option (Tree_diffs × Int):=
  (f251 K (⟨f386 K (⟨a0⟩:Plain_diffs),f387 K (⟨a0⟩:Plain_diffs)⟩:Gr)).bind fun(x15_0,x15_1,x15_2)=>
  bif (decide (x15_2≥0)) then
    some ((⟨([]:List Int),([]:List Bool),([]:List Int)⟩:Tree_diffs),41)
  else
    (f311 K (⟨f386 K (⟨a0⟩:Plain_diffs),f387 K (⟨a0⟩:Plain_diffs)⟩:Gr) ([a1]:List Int)).bind fun(x28_0,x28_1)=>
    some (x28_0,0)
def f228 (K:Nat) (a0:Net):Option (List Int × Int):=
  (f288 K a0 0).bind fun(x8_0,x8_1)=>
  bif (x8_1 != 0) then
    some (([]:List Int),x8_1)
  else
    (f297 K x8_0.has false).bind fun x16=>
    bif x16 then
      some (([]:List Int),42)
    else
      some (x8_0.long,0)
def f108 (K:Nat) (a0:Net):Option (List Int × Int):=
  (f227 K a0).bind fun x6=>
  bif (x6 != 0) then
    some (([]:List Int),x6)
  else
    (f228 K a0).bind fun(x11_0,x11_1)=>
    some (x11_0,x11_1)
def f29 (K:Nat) (a0:Scene):Option (List (List Int) × Int):=
  (f107 K a0 (fun y0=>f108 K y0)).bind fun(x5_0,x5_1)=>
  some (x5_0,x5_1)
def f232 (K:Nat) (a0:Net):Option (Net):=
  Option.bind (
    rngL a0.Diffs ([]:List Diff) (fun(v12:Int) (voo3_1:List Diff)=>
        some voo3_1) fun nx x v12 (voo3_1:List Diff)=>
      (app voo3_1 ([(⟨x.To,x.From,x.Most⟩:Diff)]:List Diff)).bind fun z26=>
      nx (v12+1) z26) fun(voo3_1_1:List Diff)=>
  some (⟨a0.Nodes,voo3_1_1⟩:Net)
def f111 (K:Nat) (a0:Net):Option (List Int × Int):=
  (f227 K a0).bind fun x9=>
  bif (x9 != 0) then
    some (([]:List Int),x9)
  else
    (f232 K a0).bind fun x15=>
    (f228 K x15).bind fun(x16_0,x16_1)=>
    Option.bind (
      rngN 0 (x16_0.length:Int) x16_0 (fun(v21:Int) (vo5:List Int)=>
          some vo5) fun nx v21 (vo5:List Int)=>
        (ix vo5 v21).bind fun y=>
        nx (v21+1) (vo5.set (Int.toNat v21) (W (-y)))) fun(vo5_1:List Int)=>
    some (vo5_1,x16_1)
def f31 (K:Nat) (a0:Scene):Option (List (List Int) × Int):=
  (f107 K a0 (fun y0=>f111 K y0)).bind fun(x5_0,x5_1)=>
  some (x5_0,x5_1)
def f114 (K:Nat) (a0:Scene) (a1:List Spot_basin):Option (List Span × Int):=
  (f31 K a0).bind fun(x14_0,x14_1)=>
  bif (x14_1 != 0) then
    some (([]:List Span),x14_1)
  else
    (f29 K a0).bind fun(x22_0,x22_1)=>
    bif (x22_1 != 0) then
      some (([]:List Span),x22_1)
    else
      Option.bind (
        rngL a1 ([]:List Span) (fun(v30:Int) (vo9:List Span)=>
            some vo9) fun nx x v30 (vo9:List Span)=>
          (ix x14_0 x.day).bind fun y=>
          (ix y x.cell).bind fun y_1=>
          (ix x22_0 x.day).bind fun y_2=>
          (ix y_2 x.cell).bind fun y_3=>
          (app vo9 ([(⟨y_1,y_3⟩:Span)]:List Span)).bind fun z55=>
          nx (v30+1) z55) fun(vo9_1:List Span)=>
      some (vo9_1,0)
def f33 (K:Nat) (a0:Scene) (a1:Int) (a2:Int):Option (Span × Int):=
  (f113 K a0 ([a1]:List Int) a2).bind fun(x16_0,x16_1)=>
  bif (x16_1 != 0) then
    some ((⟨0,0⟩:Span),x16_1)
  else
    (f114 K a0 x16_0).bind fun(x26_0,x26_1)=>
    bif (x26_1 != 0) then
      some ((⟨0,0⟩:Span),x26_1)
    else
      (ix x26_0 0).bind fun y=>
      some (y,0)
def f39 (K:Nat) (a0:Scene) (a1:List Int) (a2:Int):Option (Span × Int):=
  (f113 K a0 a1 a2).bind fun(x19_0,x19_1)=>
  bif (x19_1 != 0) then
    some ((⟨0,0⟩:Span),x19_1)
  else
    (f114 K a0 x19_0).bind fun(x29_0,x29_1)=>
    bif (x29_1 != 0) then
      some ((⟨0,0⟩:Span),x29_1)
    else
      Option.bind (
        rngL x29_0 (0,0) (fun(v38:Int) ((vo11_0,vo11_1):Int × Int)=>
            some (vo11_0,vo11_1)) fun nx x v38 ((vo11_0,vo11_1):Int × Int)=>
          (ix x19_0 v38).bind fun y=>
          (ix a0.Basin.Cells y.cell).bind fun y_1=>
          nx (v38+1) ((W (vo11_0+(W (y_1.Area*x.Lo)))),(W (vo11_1+(W (y_1.Area*x.Hi)))))) fun((vo11_0_1,vo11_1_1):Int × Int)=>
      some ((⟨vo11_0_1,vo11_1_1⟩:Span),0)
def f120 (K:Nat) (a0:Scene) (a1:List Int) (a2:Int) (a3:Int) (a4:Bool):Option ((Option Laid_basin) × List Int × Int):=
  (f113 K a0 a1 a2).bind fun(x24_0,x24_1)=>
  bif (x24_1 != 0) then
    some ((none:Option Laid_basin),([]:List Int),x24_1)
  else
    (f113 K a0 a1 a3).bind fun(x34_0,x34_1)=>
    bif (x34_1 != 0) then
      some ((none:Option Laid_basin),([]:List Int),x34_1)
    else
      bif (decide (a2≥a3)) then
        some ((none:Option Laid_basin),([]:List Int),1)
      else
        (f102 K a0).bind fun x44=>
        (mk x44.net.Nodes 0).bind fun z50=>
        Option.bind (
          rngL x24_0 z50 (fun(v53:Int) (vo17:List Int)=>
              some vo17) fun nx x v53 (vo17:List Int)=>
            (ix a0.Basin.Cells x.cell).bind fun y=>
            Lt (bif (!a4) then (W (-y.Area)) else y.Area) fun v19=>
            (f202 K x44 x.cell x.day).bind fun x83=>
            (ix vo17 x83).bind fun y_1=>
            (ix x34_0 v53).bind fun y_2=>
            (f202 K x44 y_2.cell y_2.day).bind fun x98=>
            (ix (vo17.set (Int.toNat x83) v19) x98).bind fun y_3=>
            nx (v53+1) ((vo17.set (Int.toNat x83) v19).set (Int.toNat x98) (W (-v19)))) fun(vo17_1:List Int)=>
        some ((some x44),vo17_1,0)
def f338 (K:Nat) (a0:Int):Option (Bool):=
  (f282 K a0 (-4096) 4096).bind fun x4=>
  some (!x4)
def f294 (K:Nat) (a0:Net) (a1:List Int):Option (Bool):=
  Option.bind (
    bif ((a1.length:Int)==a0.Nodes) then
      (f292 K a1 (fun y0=>f338 K y0)).bind fun x12=>
      some (!x12)
    else
      some false) fun(v4:Bool)=>
  some v4
def f360 (K:Nat) (a0:Use_diffs):Option (List Int):=
  Option.bind (
    rngL a0.flow ([]:List Int) (fun(v11:Int) (vo3:List Int)=>
        some vo3) fun nx x v11 (vo3:List Int)=>
      Option.bind (
        bif (decide (x > 0)) then
          (app vo3 ([v11]:List Int)).bind fun z21=>
          some z21
        else
          some vo3) fun(vo3_2:List Int)=>
      nx (v11+1) vo3_2) fun(vo3_1:List Int)=>
  some vo3_1
def f366 (K:Nat) (a0:List Diff):Option (List Diff):=
  app ([]:List Diff) a0
def f359 (K:Nat) (a0:Use_diffs):Option (List Diff):=
  (f366 K a0.Net.Diffs).bind fun x12=>
  (f360 K a0).bind fun x14=>
  Option.bind (
    rngL x14 x12 (fun(v16:Int) (vo3:List Diff)=>
        some vo3) fun nx x v16 (vo3:List Diff)=>
      (ix a0.Net.Diffs x).bind fun y=>
      (app vo3 ([(⟨y.To,y.From,(W (-y.Most))⟩:Diff)]:List Diff)).bind fun z38=>
      nx (v16+1) z38) fun(vo3_1:List Diff)=>
  some vo3_1
def f385 (K:Nat) (a0:Use_diffs):Option (Int):=
  some a0.Net.Nodes
def f341 (K:Nat) (a0:Use_diffs) (a1:Int) (a2:List Int):Option (Bool × Use_diffs × List Int):=
  (f359 K a0).bind fun x19=>
  (f360 K a0).bind fun x21=>
  (f311 K (⟨f359 K a0,f385 K a0⟩:Gr) a2).bind fun(x26_0,x26_1)=>
  (ix x26_0.has a1).bind fun y=>
  bif (!y) then
    some (false,a0,a2)
  else
    Option.bind (
      whl (fun nx ((vo11,v12):List Int × Int)=>
        (ix x26_0.last v12).bind fun y_10=>
        bif (decide (y_10≥0)) then
          (app vo11 ([y_10]:List Int)).bind fun z58=>
          (ix x19 y_10).bind fun y_11=>
          nx (z58,y_11.From)
        else
          some (vo11,v12)) K (([]:List Int),a1)) fun((vo11_1,v12_1):List Int × Int)=>
    Option.bind (
      bif (a1 != 0) then
        (ix a0.want a1).bind fun y_9=>
        some y_9
      else
        some 1152921504606846976) fun(v13:Int)=>
    Option.bind (
      bif (v12_1 != 0) then
        (ix a0.want v12_1).bind fun y_8=>
        some (if (W (-y_8)) < v13 then (W (-y_8)) else v13)
      else
        some v13) fun(v13_1:Int)=>
    Option.bind (
      rngL vo11_1 v13_1 (fun(v82:Int) (v13_2:Int)=>
          some v13_2) fun nx_1 x v82 (v13_2:Int)=>
        Option.bind (
          bif (decide (x≥(a0.Net.Diffs.length:Int))) then
            (ix x21 (W (x - (a0.Net.Diffs.length:Int)))).bind fun y_6=>
            (ix a0.flow y_6).bind fun y_7=>
            some (if y_7 < v13_2 then y_7 else v13_2)
          else
            some v13_2) fun(v13_4:Int)=>
        nx_1 (v82+1) v13_4) fun(v13_3:Int)=>
    Option.bind (
      rngL vo11_1 a0.flow (fun(v116:Int) (voo0_2:List Int)=>
          some voo0_2) fun nx_2 x_1 v116 (voo0_2:List Int)=>
        Option.bind (
          bif (decide (x_1≥(a0.Net.Diffs.length:Int))) then
            (ix x21 (W (x_1 - (a0.Net.Diffs.length:Int)))).bind fun y_3=>
            (ix voo0_2 y_3).bind fun y_4=>
            some (voo0_2.set (Int.toNat y_3) (W (y_4 - v13_3)))
          else
            (ix voo0_2 x_1).bind fun y_5=>
            some (voo0_2.set (Int.toNat x_1) (W (y_5+v13_3)))) fun(voo0_2_2:List Int)=>
        nx_2 (v116+1) voo0_2_2) fun(voo0_2_1:List Int)=>
    Option.bind (
      bif (a1 != 0) then
        (ix a0.want a1).bind fun y_2=>
        some (a0.want.set (Int.toNat a1) (W (y_2 - v13_3)))
      else
        some a0.want) fun(voo0_3:List Int)=>
    Option.bind (
      bif (v12_1 != 0) then
        (ix voo0_3 v12_1).bind fun y_1=>
        some (voo0_3.set (Int.toNat v12_1) (W (y_1+v13_3)))
      else
        some voo0_3) fun(vook0_3:List Int)=>
    some (true,(⟨a0.Net,voo0_2_1,vook0_3⟩:Use_diffs),a2)
def f342 (K:Nat) (a0:Use_diffs):Option (List Int):=
  Option.bind (
    rngL a0.want ([0]:List Int) (fun(v12:Int) (vo3:List Int)=>
        some vo3) fun nx x v12 (vo3:List Int)=>
      Option.bind (
        bif ((decide (v12 > 0))&&(decide (x < 0))) then
          (app vo3 ([v12]:List Int)).bind fun z26=>
          some z26
        else
          some vo3) fun(vo3_2:List Int)=>
      nx (v12+1) vo3_2) fun(vo3_1:List Int)=>
  some vo3_1
def f303 (K:Nat) (a0:Use_diffs):Option (Bool × Use_diffs):=
  Jo (α:=Int × List Diff × List Int × List Int→Option (Bool × Use_diffs)) (fun((vo0_0_1,vo0_1_1,voo0_2_1,voo0_3_1):Int × List Diff × List Int × List Int)=>
    Jo (α:=Int × List Diff × List Int × List Int→Option (Bool × Use_diffs)) (fun((vok0_0,vok0_1,vook0_2,vook0_3):Int × List Diff × List Int × List Int)=>
      some (true,(⟨(⟨vok0_0,vok0_1⟩:Net),vook0_2,vook0_3⟩:Use_diffs))) fun(j_1:Int × List Diff × List Int × List Int→Option (Bool × Use_diffs))=>
    whl (fun nx_1 ((vo0_0_2,vo0_1_2,voo0_2_2,voo0_3_2,v4):Int × List Diff × List Int × List Int × Int)=>
      bif (decide (v4 < vo0_0_2)) then
        Jo (α:=Int × List Diff × List Int × List Int→Option (Bool × Use_diffs)) (fun((vo0_0_4,vo0_1_4,voo0_2_4,voo0_3_4):Int × List Diff × List Int × List Int)=>
          nx_1 (vo0_0_4,vo0_1_4,voo0_2_4,voo0_3_4,(W (v4+1)))) fun(j_2:Int × List Diff × List Int × List Int→Option (Bool × Use_diffs))=>
        whl (fun nx_2 ((vo0_0_3,vo0_1_3,voo0_2_3,voo0_3_3):Int × List Diff × List Int × List Int)=>
          (ix voo0_3_3 v4).bind fun y=>
          bif (decide (y < 0)) then
            (f341 K (⟨(⟨vo0_0_3,vo0_1_3⟩:Net),voo0_2_3,voo0_3_3⟩:Use_diffs) 0 ([v4]:List Int)).bind fun(x48_0,x48_1,x48_2)=>
            bif (!x48_0) then
              some (false,x48_1)
            else
              nx_2 (x48_1.Net.Nodes,x48_1.Net.Diffs,x48_1.flow,x48_1.want)
          else
            j_2 (vo0_0_3,vo0_1_3,voo0_2_3,voo0_3_3)) K (vo0_0_2,vo0_1_2,voo0_2_2,voo0_3_2)
      else
        j_1 (vo0_0_2,vo0_1_2,voo0_2_2,voo0_3_2)) K (vo0_0_1,vo0_1_1,voo0_2_1,voo0_3_1,1)) fun(j:Int × List Diff × List Int × List Int→Option (Bool × Use_diffs))=>
  whl (fun nx ((vo0_0,vo0_1,voo0_2,voo0_3,v3):Int × List Diff × List Int × List Int × Int)=>
    bif (decide (v3 < vo0_0)) then
      Jo (α:=Int × List Diff × List Int × List Int→Option (Bool × Use_diffs)) (fun((vo0_0_6,vo0_1_6,voo0_2_6,voo0_3_6):Int × List Diff × List Int × List Int)=>
        nx (vo0_0_6,vo0_1_6,voo0_2_6,voo0_3_6,(W (v3+1)))) fun(j_3:Int × List Diff × List Int × List Int→Option (Bool × Use_diffs))=>
      whl (fun nx_3 ((vo0_0_5,vo0_1_5,voo0_2_5,voo0_3_5):Int × List Diff × List Int × List Int)=>
        (ix voo0_3_5 v3).bind fun y_1=>
        bif (decide (y_1 > 0)) then
          (f342 K (⟨(⟨vo0_0_5,vo0_1_5⟩:Net),voo0_2_5,voo0_3_5⟩:Use_diffs)).bind fun x25=>
          (f341 K (⟨(⟨vo0_0_5,vo0_1_5⟩:Net),voo0_2_5,voo0_3_5⟩:Use_diffs) v3 x25).bind fun(x26_0,x26_1,x26_2)=>
          bif (!x26_0) then
            some (false,x26_1)
          else
            nx_3 (x26_1.Net.Nodes,x26_1.Net.Diffs,x26_1.flow,x26_1.want)
        else
          j_3 (vo0_0_5,vo0_1_5,voo0_2_5,voo0_3_5)) K (vo0_0,vo0_1,voo0_2,voo0_3)
    else
      j (vo0_0,vo0_1,voo0_2,voo0_3)) K (a0.Net.Nodes,a0.Net.Diffs,a0.flow,a0.want,1)
def f235 (K:Nat) (a0:Net) (a1:List Int):Option ((Option Use_diffs) × Bool × Int):=
  (f294 K a0 a1).bind fun x16=>
  (f223 K a0 ([x16]:List Bool)).bind fun x18=>
  bif (x18 != 0) then
    some ((none:Option Use_diffs),false,x18)
  else
    (f251 K (⟨f386 K (⟨a0⟩:Plain_diffs),f387 K (⟨a0⟩:Plain_diffs)⟩:Gr)).bind fun(x26_0,x26_1,x26_2)=>
    bif (decide (x26_2≥0)) then
      some ((none:Option Use_diffs),false,41)
    else
      (mk (a0.Diffs.length:Int) 0).bind fun z36=>
      (f85 K a1).bind fun x38=>
      (f303 K (⟨a0,z36,x38⟩:Use_diffs)).bind fun(x42_0,x42_1)=>
      some ((some x42_1),x42_0,0)
def f236 (K:Nat) (a0:Net) (a1:List Int):Option (Int):=
  Option.bind (
    rngL a0.Diffs 0 (fun(v11:Int) (v5:Int)=>
        some v5) fun nx x v11 (v5:Int)=>
      (ix a1 v11).bind fun y=>
      nx (v11+1) (W (v5+(W (y*x.Most))))) fun(v5_1:Int)=>
  some v5_1
def f121 (K:Nat) (a0:Net) (a1:List Int):Option (Int × Bool × Int):=
  (f235 K a0 a1).bind fun(x13_0,x13_1,x13_2)=>
  bif ((x13_2 != 0)||(!x13_1)) then
    some (0,false,x13_2)
  else
    (x13_0).bind fun y=>
    (f236 K a0 y.flow).bind fun x29=>
    some (x29,true,0)
def f40 (K:Nat) (a0:Scene) (a1:List Int) (a2:Int) (a3:Int):Option (Span × Int):=
  (f120 K a0 a1 a2 a3 false).bind fun(x31_0,x31_1,x31_2)=>
  bif (x31_2 != 0) then
    some ((⟨0,0⟩:Span),x31_2)
  else
    (x31_0).bind fun y=>
    (f121 K y.net x31_1).bind fun(x45_0,x45_1,x45_2)=>
    bif (x45_2 != 0) then
      some ((⟨0,0⟩:Span),x45_2)
    else
      (f120 K a0 a1 a2 a3 true).bind fun(x31_0_1,x31_1_1,x31_2_1)=>
      bif (x31_2_1 != 0) then
        some ((⟨0,0⟩:Span),x31_2_1)
      else
        (x31_0_1).bind fun y_1=>
        (f121 K y_1.net x31_1_1).bind fun(x45_0_1,x45_1_1,x45_2_1)=>
        bif (x45_2_1 != 0) then
          some ((⟨0,0⟩:Span),x45_2_1)
        else
          some ((⟨(W (-x45_0)),x45_0_1⟩:Span),0)
def f42 (K:Nat) (a0:List Sight):Option (List Sight):=
  app ([]:List Sight) a0
def f43 (K:Nat) (a0:List Change):Option (List Change):=
  app ([]:List Change) a0
def f249 (K:Nat) (a0:List Cell):Option (List Cell):=
  app ([]:List Cell) a0
def f250 (K:Nat) (a0:List Arr2_3):Option (List Arr2_3):=
  app ([]:List Arr2_3) a0
def f131 (K:Nat) (a0:Scene):Option (Scene):=
  (f249 K a0.Basin.Cells).bind fun x6=>
  (f250 K a0.Basin.Pairs).bind fun x12=>
  (f85 K a0.Days).bind fun x17=>
  (f42 K a0.Sights).bind fun x21=>
  (f43 K a0.Changes).bind fun x25=>
  some (⟨(⟨x6,x12,a0.Basin.Gain,a0.Basin.Slack,a0.Basin.Deep⟩:Basin),x17,x21,x25⟩:Scene)
def f53 (K:Nat) (a0:Scene) (a1:Sight):Option (Scene × Int):=
  (f66 K a0).bind fun x9=>
  bif (x9 != 0) then
    some ((⟨(⟨([]:List Cell),([]:List Arr2_3),0,0,0⟩:Basin),([]:List Int),([]:List Sight),([]:List Change)⟩:Scene),x9)
  else
    bif ((a0.Sights.length:Int)==256) then
      some ((⟨(⟨([]:List Cell),([]:List Arr2_3),0,0,0⟩:Basin),([]:List Int),([]:List Sight),([]:List Change)⟩:Scene),2)
    else
      (f130 K a0 a1).bind fun x21=>
      bif (!x21) then
        some ((⟨(⟨([]:List Cell),([]:List Arr2_3),0,0,0⟩:Basin),([]:List Int),([]:List Sight),([]:List Change)⟩:Scene),51)
      else
        (f131 K a0).bind fun x25=>
        (app x25.Sights ([a1]:List Sight)).bind fun z30=>
        some ((⟨x25.Basin,x25.Days,z30,x25.Changes⟩:Scene),0)
def f252 (K:Nat) (a0:List Int):Option (List Int):=
  Option.bind (
    whl (fun nx ((vo0,v2,v3):List Int × Int × Int)=>
      bif (decide (v2 < v3)) then
        (ix vo0 v3).bind fun y=>
        (ix vo0 v2).bind fun y_1=>
        (ix (vo0.set (Int.toNat v2) y) v3).bind fun y_2=>
        nx (((vo0.set (Int.toNat v2) y).set (Int.toNat v3) y_1),(W (v2+1)),(W (v3 - 1)))
      else
        some vo0) K (a0,0,(W ((a0.length:Int) - 1)))) fun(vok0:List Int)=>
  some vok0
def f132 (K:Nat) (a0:Net):Option (List Int × Bool × Int):=
  (f227 K a0).bind fun x13=>
  bif (x13 != 0) then
    some (([]:List Int),false,x13)
  else
    (f251 K (⟨f386 K (⟨a0⟩:Plain_diffs),f387 K (⟨a0⟩:Plain_diffs)⟩:Gr)).bind fun(x21_0,x21_1,x21_2)=>
    bif (decide (x21_2 < 0)) then
      some (([]:List Int),false,0)
    else
      Option.bind (
        whl (fun nx ((vo9,v10):List Int × Int)=>
          (ix x21_1.last v10).bind fun y=>
          (app vo9 ([y]:List Int)).bind fun z36=>
          (ix a0.Diffs y).bind fun y_1=>
          bif (y_1.From==x21_2) then
            some z36
          else
            nx (z36,y_1.From)) K (([]:List Int),x21_2)) fun(vo9_1:List Int)=>
      (f252 K vo9_1).bind fun x47=>
      some (x47,true,0)
def f350 (K:Nat) (a0:Int):Option (Bool):=
  some (a0 != a0)
def f319 (K:Nat) (a0:Int) (a1:Int):Option (Bool):=
  Option.bind (
    (f350 K a0).bind fun x6=>
    bif x6 then
      (f350 K a1).bind fun x9=>
      bif (!x9) then
        some true
      else
        some (decide (a0 < a1))
    else
      some (decide (a0 < a1))) fun(v4:Bool)=>
  some v4
def f313 (K:Nat) (a0:List Int) (a1:Int) (a2:Int):Option (List Int):=
  Option.bind (
    rngN (W (a1+1)) a2 a0 (fun(v6:Int) (vo0:List Int)=>
        some vo0) fun nx v6 (vo0:List Int)=>
      Option.bind (
        whl (fun nx_1 ((vo0_1,v7):List Int × Int)=>
          Option.bind (
            bif (decide (v7 > a1)) then
              (ix vo0_1 v7).bind fun y_3=>
              (ix vo0_1 (W (v7 - 1))).bind fun y_4=>
              (f319 K y_3 y_4).bind fun x29=>
              some x29
            else
              some false) fun(v30:Bool)=>
          bif v30 then
            (ix vo0_1 (W (v7 - 1))).bind fun y=>
            (ix vo0_1 v7).bind fun y_1=>
            (ix (vo0_1.set (Int.toNat v7) y) (W (v7 - 1))).bind fun y_2=>
            nx_1 (((vo0_1.set (Int.toNat v7) y).set (Int.toNat (W (v7 - 1))) y_1),(W (v7 - 1)))
          else
            some vo0_1) K (vo0,v6)) fun(vo0_2:List Int)=>
      nx (v6+1) vo0_2) fun(vok0:List Int)=>
  some vok0
def f345 (K:Nat) (a0:List Int) (a1:Int) (a2:Int) (a3:Int):Option (List Int):=
  Jo (α:=List Int→Option (List Int)) (fun(vok0:List Int)=>
    some vok0) fun(j:List Int→Option (List Int))=>
  whl (fun nx ((vo0,v8):List Int × Int)=>
    bif (decide ((W ((W (2*v8))+1))≥a2)) then
      j vo0
    else
      Option.bind (
        bif (decide ((W ((W ((W (2*v8))+1))+1)) < a2)) then
          (ix vo0 (W (a3+(W ((W (2*v8))+1))))).bind fun y_3=>
          (ix vo0 (W ((W (a3+(W ((W (2*v8))+1))))+1))).bind fun y_4=>
          (f319 K y_3 y_4).bind fun x35=>
          some x35
        else
          some false) fun(v36:Bool)=>
      Lt (bif v36 then (W ((W ((W (2*v8))+1))+1)) else (W ((W (2*v8))+1))) fun v9=>
      (ix vo0 (W (a3+v8))).bind fun y=>
      (ix vo0 (W (a3+v9))).bind fun y_1=>
      (f319 K y y_1).bind fun x51=>
      bif (!x51) then
        some vo0
      else
        (ix (vo0.set (Int.toNat (W (a3+v8))) y_1) (W (a3+v9))).bind fun y_2=>
        nx (((vo0.set (Int.toNat (W (a3+v8))) y_1).set (Int.toNat (W (a3+v9))) y),v9)) K (a0,a1)
def f314 (K:Nat) (a0:List Int) (a1:Int) (a2:Int):Option (List Int):=
  Option.bind (
    whl (fun nx ((vo0,v9):List Int × Int)=>
      bif (decide (v9≥0)) then
        (f345 K vo0 v9 (W (a2 - a1)) a1).bind fun x26=>
        nx (x26,(W (v9 - 1)))
      else
        some vo0) K (a0,(W (Int.tdiv (W ((W (a2 - a1)) - 1)) 2)))) fun(vo0_1:List Int)=>
  Option.bind (
    whl (fun nx_1 ((vo0_2,v10):List Int × Int)=>
      bif (decide (v10≥0)) then
        (ix vo0_2 (W (a1+v10))).bind fun y=>
        (ix vo0_2 a1).bind fun y_1=>
        (ix (vo0_2.set (Int.toNat a1) y) (W (a1+v10))).bind fun y_2=>
        (f345 K ((vo0_2.set (Int.toNat a1) y).set (Int.toNat (W (a1+v10))) y_1) 0 v10 a1).bind fun x55=>
        nx_1 (x55,(W (v10 - 1)))
      else
        some vo0_2) K (vo0_1,(W ((W (a2 - a1)) - 1)))) fun(vok0:List Int)=>
  some vok0
def f323 (K:Nat) (a0:Int):Option (Int):=
  Option.bind (
    bif (decide (a0≥4294967296)) then
      some ((shrU a0 32),32)
    else
      some (a0,0)) fun((v0,v2):Int × Int)=>
  Option.bind (
    bif (decide (v0≥65536)) then
      some ((shrU v0 16),(W (v2+16)))
    else
      some (v0,v2)) fun((v0_1,v2_1):Int × Int)=>
  Option.bind (
    bif (decide (v0_1≥256)) then
      some ((shrU v0_1 8),(W (v2_1+8)))
    else
      some (v0_1,v2_1)) fun((v0_2,v2_2):Int × Int)=>
  (ix len8tab (IntKind.wrap .u8 v0_2)).bind fun y=>
  some (W (v2_2+(IntKind.wrap .i64 y)))
def f254 (K:Nat) (a0:Int):Option (Int):=
  (f323 K a0).bind fun x7=>
  some x7
def f362 (K:Nat) (a0:List Int) (a1:Int) (a2:Int) (a3:Int):Option (Int × Int × Int):=
  (ix a0 a2).bind fun y=>
  (ix a0 a1).bind fun y_1=>
  (f319 K y y_1).bind fun x18=>
  bif x18 then
    some (a2,a1,(W (a3+1)))
  else
    some (a1,a2,a3)
def f349 (K:Nat) (a0:List Int) (a1:Int) (a2:Int) (a3:Int) (a4:Int):Option (Int × Int):=
  (f362 K a0 a1 a2 a4).bind fun(x16_0,x16_1,x16_2)=>
  (f362 K a0 x16_1 a3 x16_2).bind fun(x24_0,x24_1,x24_2)=>
  (f362 K a0 x16_0 x24_0 x24_2).bind fun(x32_0,x32_1,x32_2)=>
  some (x32_1,x32_2)
def f348 (K:Nat) (a0:List Int) (a1:Int) (a2:Int):Option (Int × Int):=
  (f349 K a0 (W (a1 - 1)) a1 (W (a1+1)) a2).bind fun(x14_0,x14_1)=>
  some (x14_0,x14_1)
def f316 (K:Nat) (a0:List Int) (a1:Int) (a2:Int):Option (Int × Int):=
  Option.bind (
    bif (decide ((W (a2 - a1))≥8)) then
      Option.bind (
        bif (decide ((W (a2 - a1))≥50)) then
          (f348 K a0 (W (a1+(W ((W (Int.tdiv (W (a2 - a1)) 4))*1)))) 0).bind fun(x37_0,x37_1)=>
          (f348 K a0 (W (a1+(W ((W (Int.tdiv (W (a2 - a1)) 4))*2)))) x37_1).bind fun(x40_0,x40_1)=>
          (f348 K a0 (W (a1+(W ((W (Int.tdiv (W (a2 - a1)) 4))*3)))) x40_1).bind fun(x43_0,x43_1)=>
          some (x43_1,x37_0,x40_0,x43_0)
        else
          some (0,(W (a1+(W ((W (Int.tdiv (W (a2 - a1)) 4))*1)))),(W (a1+(W ((W (Int.tdiv (W (a2 - a1)) 4))*2)))),(W (a1+(W ((W (Int.tdiv (W (a2 - a1)) 4))*3)))))) fun((vo9_0_1,v10,v11_1,v12):Int × Int × Int × Int)=>
      (f349 K a0 v10 v11_1 v12 vo9_0_1).bind fun(x48_0,x48_1)=>
      some (x48_1,x48_0)
    else
      some (0,(W (a1+(W ((W (Int.tdiv (W (a2 - a1)) 4))*2)))))) fun((vo9_0,v11):Int × Int)=>
  bif (vo9_0==0) then
    some (v11,1)
  else
    bif (vo9_0==12) then
      some (v11,2)
    else
      some (v11,0)
def f317 (K:Nat) (a0:List Int) (a1:Int) (a2:Int):Option (List Int):=
  Option.bind (
    whl (fun nx ((vo0,v6,v7):List Int × Int × Int)=>
      bif (decide (v6 < v7)) then
        (ix vo0 v7).bind fun y=>
        (ix vo0 v6).bind fun y_1=>
        (ix (vo0.set (Int.toNat v6) y) v7).bind fun y_2=>
        nx (((vo0.set (Int.toNat v6) y).set (Int.toNat v7) y_1),(W (v6+1)),(W (v7 - 1)))
      else
        some vo0) K (a0,a1,(W (a2 - 1)))) fun(vok0:List Int)=>
  some vok0
def f318 (K:Nat) (a0:List Int) (a1:Int) (a2:Int):Option (Bool × List Int):=
  Jo (α:=List Int→Option (Bool × List Int)) (fun(vok0:List Int)=>
    some (false,vok0)) fun(j:List Int→Option (Bool × List Int))=>
  rngN 0 5 (a0,(W (a1+1))) (fun(v8:Int) ((vo0,v7):List Int × Int)=>
      j vo0) fun nx v8 ((vo0,v7):List Int × Int)=>
    Option.bind (
      whl (fun nx_1 (v7_1:Int)=>
        Option.bind (
          bif (decide (v7_1 < a2)) then
            (ix vo0 v7_1).bind fun y_9=>
            (ix vo0 (W (v7_1 - 1))).bind fun y_10=>
            (f319 K y_9 y_10).bind fun x30=>
            some (!x30)
          else
            some false) fun(v32:Bool)=>
        bif v32 then
          nx_1 (W (v7_1+1))
        else
          some v7_1) K v7) fun(v7_2:Int)=>
    bif (v7_2==a2) then
      some (true,vo0)
    else
      bif (decide ((W (a2 - a1)) < 50)) then
        some (false,vo0)
      else
        (ix vo0 (W (v7_2 - 1))).bind fun y=>
        (ix vo0 v7_2).bind fun y_1=>
        (ix (vo0.set (Int.toNat v7_2) y) (W (v7_2 - 1))).bind fun y_2=>
        Option.bind (
          bif (decide ((W (v7_2 - a1))≥2)) then
            Option.bind (
              whl (fun nx_3 ((vo0_5,v9):List Int × Int)=>
                bif (decide (v9≥1)) then
                  (ix vo0_5 v9).bind fun y_6=>
                  (ix vo0_5 (W (v9 - 1))).bind fun y_7=>
                  (f319 K y_6 y_7).bind fun x77=>
                  bif (!x77) then
                    some vo0_5
                  else
                    (ix (vo0_5.set (Int.toNat v9) y_7) (W (v9 - 1))).bind fun y_8=>
                    nx_3 (((vo0_5.set (Int.toNat v9) y_7).set (Int.toNat (W (v9 - 1))) y_6),(W (v9 - 1)))
                else
                  some vo0_5) K (((vo0.set (Int.toNat v7_2) y).set (Int.toNat (W (v7_2 - 1))) y_1),(W (v7_2 - 1)))) fun(vo0_6:List Int)=>
            some vo0_6
          else
            some ((vo0.set (Int.toNat v7_2) y).set (Int.toNat (W (v7_2 - 1))) y_1)) fun(vo0_1:List Int)=>
        Option.bind (
          bif (decide ((W (a2 - v7_2))≥2)) then
            Option.bind (
              rngN (W (v7_2+1)) a2 vo0_1 (fun(v10:Int) (vo0_3:List Int)=>
                  some vo0_3) fun nx_2 v10 (vo0_3:List Int)=>
                (ix vo0_3 v10).bind fun y_3=>
                (ix vo0_3 (W (v10 - 1))).bind fun y_4=>
                (f319 K y_3 y_4).bind fun x115=>
                bif (!x115) then
                  some vo0_3
                else
                  (ix (vo0_3.set (Int.toNat v10) y_4) (W (v10 - 1))).bind fun y_5=>
                  nx_2 (v10+1) ((vo0_3.set (Int.toNat v10) y_4).set (Int.toNat (W (v10 - 1))) y_3)) fun(vo0_4:List Int)=>
            some vo0_4
          else
            some vo0_1) fun(vo0_2:List Int)=>
        nx (v8+1) (vo0_2,v7_2)
def f253 (K:Nat) (a0:List Int) (a1:Int) (a2:Int) (a3:Int):Option (List Int):=
  whl (fun nx (_:Unit)=>
    bif (decide ((W (a2 - a1))≤12)) then
      (f313 K a0 a1 a2).bind fun x27=>
      some x27
    else
      bif (a3==0) then
        (f314 K a0 a1 a2).bind fun x33=>
        some x33
      else
        bif (!true) then
          none
        else
          (f316 K a0 a1 a2).bind fun(x46_0,x46_1)=>
          Option.bind (
            bif (x46_1==2) then
              (f317 K a0 a1 a2).bind fun x54=>
              some (x54,(W ((W (a2 - 1)) - (W (x46_0 - a1)))),1)
            else
              some (a0,x46_0,x46_1)) fun((vo0,v11,v12):List Int × Int × Int)=>
          Jo (α:=List Int→Option (List Int)) (fun(vo0_1:List Int)=>
            Option.bind (
              bif (decide (a1 > 0)) then
                (ix vo0_1 (W (a1 - 1))).bind fun y=>
                (ix vo0_1 v11).bind fun y_1=>
                (f319 K y y_1).bind fun x85=>
                some (!x85)
              else
                some false) fun(v87:Bool)=>
            bif v87 then
              none
            else
              none) fun(j_1:List Int→Option (List Int))=>
          bif (v12==1) then
            (f318 K vo0 a1 a2).bind fun(x72_0,x72_1)=>
            bif x72_0 then
              some x72_1
            else
              j_1 x72_1
          else
            j_1 vo0) K ()
def f133 (K:Nat) (a0:List Int):Option (List Int):=
  (f254 K (IntKind.wrap .u64 (a0.length:Int))).bind fun x9=>
  (f253 K a0 0 (a0.length:Int) x9).bind fun x10=>
  some x10
def f134 (K:Nat) (a0:List Int):Option (List Int):=
  bif (decide ((a0.length:Int) < 2)) then
    some a0
  else
    Jo (α:=Unit→Option (List Int)) (fun(_:Unit)=>
      some a0) fun(j:Unit→Option (List Int))=>
    rngN 1 (a0.length:Int) () (fun(v3:Int) (_:Unit)=>
        j ()) fun nx v3 (_:Unit)=>
      (ix a0 v3).bind fun y=>
      (ix a0 (W (v3 - 1))).bind fun y_1=>
      bif (y==y_1) then
        (bnds v3 (a0.length:Int) a0.length).bind fun _=>
        Option.bind (
          rngN 1 ((Int.toNat (a0.length:Int) - Int.toNat v3:Nat):Int) (a0,v3) (fun(v5:Int) ((vo0,v3_1):List Int × Int)=>
              some (vo0,v3_1)) fun nx_1 v5 ((vo0,v3_1):List Int × Int)=>
            (vix v3 (a0.length:Int) v5).bind fun _=>
            (ix vo0 (v3+v5)).bind fun y_2=>
            (vix v3 (a0.length:Int) (W (v5 - 1))).bind fun _=>
            (ix vo0 (v3+(W (v5 - 1)))).bind fun y_3=>
            Option.bind (
              bif (y_2 != y_3) then
                (vix v3 (a0.length:Int) v5).bind fun _=>
                (ix vo0 v3_1).bind fun y_4=>
                some ((vo0.set (Int.toNat v3_1) y_2),(W (v3_1+1)))
              else
                some (vo0,v3_1)) fun((vo0_2,v3_3):List Int × Int)=>
            nx_1 (v5+1) (vo0_2,v3_3)) fun((vo0_1,v3_2):List Int × Int)=>
        (bnds v3_2 (vo0_1.length:Int) vo0_1.length).bind fun _=>
        (bnds 0 v3_2 (clrI vo0_1 v3_2 (vo0_1.length:Int) 0).length).bind fun _=>
        (vown (clrI vo0_1 v3_2 (vo0_1.length:Int) 0) v3_2).bind fun z2=>
        some z2
      else
        nx (v3+1) ()
def f84 (K:Nat) (a0:List Int) (a1:Int) (a2:Int):Option (List Int):=
  (bnds a1 a2 (a0.length:Int)).bind fun _=>
  (bnds a1 (a0.length:Int) a0.length).bind fun _=>
  bif (a1==a2) then
    some a0
  else
    (bnds 0 a1 a0.length).bind fun _=>
    (bnds a2 (a0.length:Int) a0.length).bind fun _=>
    (vapp a0 a1 a2 (a0.length:Int) a0.length).bind fun z26=>
    (bnds ((Int.toNat (z26.length:Int) - Int.toNat 0:Nat):Int) (a0.length:Int) a0.length).bind fun _=>
    (vown (clrI z26 ((Int.toNat (z26.length:Int) - Int.toNat 0:Nat):Int) (a0.length:Int) 0) (z26.length:Int)).bind fun z6=>
    some z6
def f135 (K:Nat) (a0:List Int) (a1:List Int→Option Bool):Option (List Int):=
  (f85 K a0).bind fun x8=>
  Option.bind (
    whl (fun nx ((v0,v5):List Int × Int)=>
      bif (decide (v5 < (v0.length:Int))) then
        (f85 K v0).bind fun x14=>
        (f84 K x14 v5 (W (v5+1))).bind fun x18=>
        (a1 x18).bind fun x21=>
        Option.bind (
          bif x21 then
            some (x18,v5)
          else
            some (v0,(W (v5+1)))) fun((v0_2,v5_1):List Int × Int)=>
        nx (v0_2,v5_1)
      else
        some v0) K (x8,0)) fun(v0_1:List Int)=>
  some v0_1
def f137 (K:Nat) (a0:Scene):Option (Bool):=
  (f31 K a0).bind fun(x7_0,x7_1)=>
  some (x7_1==0)
def f138 (K:Nat) (a0:Scene) (a1:Int→Option Bool):Option (Scene):=
  Option.bind (
    rngL a0.Sights ([]:List Sight) (fun(v11:Int) (vo5:List Sight)=>
        some vo5) fun nx x v11 (vo5:List Sight)=>
      (a1 x.No).bind fun x18=>
      Option.bind (
        bif x18 then
          (app vo5 ([x]:List Sight)).bind fun z22=>
          some z22
        else
          some vo5) fun(vo5_2:List Sight)=>
      nx (v11+1) vo5_2) fun(vo5_1:List Sight)=>
  some (⟨a0.Basin,a0.Days,vo5_1,a0.Changes⟩:Scene)
def f255 (K:Nat) (a0:Int) (a1:Int) (a2:List Int):Option (Bool):=
  Option.bind (
    bif (a0 != a1) then
      (f83 K a2 a0).bind fun x11=>
      some x11
    else
      some false) fun(v4:Bool)=>
  some v4
def f139 (K:Nat) (a0:List Int) (a1:Int):Option ((Int × List Int)):=
  some (a1,a0)
def f136 (K:Nat) (a0:List Int) (a1:Scene):Option (Bool):=
  (f139 K a0 (-1)).bind fun x6=>
  (f138 K a1 (fun y0=>f255 K y0 x6.1 x6.2)).bind fun x7=>
  (f137 K x7).bind fun x8=>
  some (!x8)
def f54 (K:Nat) (a0:Scene):Option (List Int × Bool × Int):=
  (f66 K a0).bind fun x15=>
  bif (x15 != 0) then
    some (([]:List Int),false,x15)
  else
    (f102 K a0).bind fun x20=>
    (f132 K x20.net).bind fun(x26_0,x26_1,x26_2)=>
    bif ((x26_2 != 0)||(!x26_1)) then
      some (([]:List Int),false,x26_2)
    else
      Option.bind (
        rngL x26_0 ([]:List Int) (fun(v39:Int) (vo10:List Int)=>
            some vo10) fun nx x v39 (vo10:List Int)=>
          (ix x20.reasons x).bind fun y=>
          Option.bind (
            bif (y.Kind==5) then
              (ix a0.Sights y.Index).bind fun y_1=>
              (app vo10 ([y_1.No]:List Int)).bind fun z62=>
              some z62
            else
              some vo10) fun(vo10_2:List Int)=>
          nx (v39+1) vo10_2) fun(vo10_1:List Int)=>
      (f133 K vo10_1).bind fun x65=>
      (f134 K x65).bind fun x67=>
      (f135 K x67 (fun y0=>f136 K y0 a0)).bind fun x70=>
      some (x70,true,0)
def f55 (K:Nat) (a0:Basin) (a1:Int):Option (Int × Bool × Int):=
  (f74 K a0).bind fun x10=>
  bif (x10 != 0) then
    some (0,false,x10)
  else
    (f140 K a1 0 (W ((a0.Pairs.length:Int) - 1))).bind fun x19=>
    bif (!x19) then
      some (0,false,1)
    else
      (ix a0.Pairs a1).bind fun y=>
      (ix a0.Cells y.a0).bind fun y_1=>
      (ix a0.Cells y.a1).bind fun y_2=>
      (f141 K y_1 y_2).bind fun x38=>
      bif (!x38) then
        some (0,false,0)
      else
        (f142 K a0 y).bind fun x42=>
        some (x42,true,0)
def f189 (K:Nat) (a0:Scene):Option (List Int):=
  Option.bind (
    rngL a0.Sights ([]:List Int) (fun(v8:Int) (vo2:List Int)=>
        some vo2) fun nx x v8 (vo2:List Int)=>
      (app vo2 ([x.No]:List Int)).bind fun z16=>
      nx (v8+1) z16) fun(vo2_1:List Int)=>
  (f133 K vo2_1).bind fun x19=>
  (f134 K x19).bind fun x21=>
  some x21
def f191 (K:Nat) (a0:List Span) (a1:List Span):Option (Bool):=
  bif ((a0.length:Int) != (a1.length:Int)) then
    some false
  else
    Jo (α:=Unit→Option (Bool)) (fun(_:Unit)=>
      some true) fun(j:Unit→Option (Bool))=>
    rngL a0 () (fun(v13:Int) (_:Unit)=>
        j ()) fun nx x v13 (_:Unit)=>
      (ix a1 v13).bind fun y=>
      bif (!(decide (x=y))) then
        some false
      else
        nx (v13+1) ()
def f190 (K:Nat) (a0:List Int) (a1:Scene) (a2:List Spot_basin) (a3:List Span):Option (Bool):=
  (f139 K a0 (-1)).bind fun x11=>
  (f138 K a1 (fun y0=>f255 K y0 x11.1 x11.2)).bind fun x12=>
  (f114 K x12 a2).bind fun(x14_0,x14_1)=>
  Option.bind (
    bif (x14_1==0) then
      (f191 K x14_0 a3).bind fun x22=>
      some x22
    else
      some false) fun(v5:Bool)=>
  some v5
def f81 (K:Nat) (a0:Scene) (a1:List Int) (a2:Int):Option (List Int × Int):=
  (f113 K a0 a1 a2).bind fun(x15_0,x15_1)=>
  bif (x15_1 != 0) then
    some (([]:List Int),x15_1)
  else
    (f114 K a0 x15_0).bind fun(x24_0,x24_1)=>
    bif (x24_1 != 0) then
      some (([]:List Int),x24_1)
    else
      (f189 K a0).bind fun x31=>
      (f135 K x31 (fun y0=>f190 K y0 a0 x15_0 x24_0)).bind fun x33=>
      some (x33,0)
def f201 (K:Nat) (a0:Laid_basin) (a1:Reason):Option (Int):=
  Jo (α:=Unit→Option (Int)) (fun(_:Unit)=>
    some (-1)) fun(j:Unit→Option (Int))=>
  rngL a0.reasons () (fun(v11:Int) (_:Unit)=>
      j ()) fun nx x v11 (_:Unit)=>
    bif (decide (x=a1)) then
      some v11
    else
      nx (v11+1) ()
def f203 (K:Nat) (a0:Int):Option (Int):=
  some (W (-(if 1152921504606846976 < (if (-1152921504606846976) > a0 then (-1152921504606846976) else a0) then 1152921504606846976 else (if (-1152921504606846976) > a0 then (-1152921504606846976) else a0))))
def f333 (K:Nat) (a0:Int) (a1:Net):Option (Bool):=
  (f282 K a0 0 (W ((a1.Diffs.length:Int) - 1))).bind fun x9=>
  some (!x9)
def f283 (K:Nat) (a0:Net) (a1:List Int):Option (Bool):=
  (f292 K a1 (fun y0=>f333 K y0 a0)).bind fun x7=>
  some (!x7)
def f284 (K:Nat) (a0:Net) (a1:Int) (a2:Int) (a3:List Int):Option (Int × Bool):=
  Jo (α:=Int × Int→Option (Int × Bool)) (fun((v1_1,v10_1):Int × Int)=>
    some (v10_1,(v1_1==a2))) fun(j:Int × Int→Option (Int × Bool))=>
  rngL a3 (a1,0) (fun(v16:Int) ((v1,v10):Int × Int)=>
      j (v1,v10)) fun nx x v16 ((v1,v10):Int × Int)=>
    (ix a0.Diffs x).bind fun y=>
    bif (y.From != v1) then
      some (0,false)
    else
      nx (v16+1) (y.To,(W (v10+y.Most)))
def f204 (K:Nat) (a0:Net) (a1:Int) (a2:Int) (a3:Int) (a4:List Int):Option (Int):=
  (f282 K a1 0 (W (a0.Nodes - 1))).bind fun x19=>
  (f282 K a2 0 (W (a0.Nodes - 1))).bind fun x24=>
  (f283 K a0 a4).bind fun x27=>
  (f223 K a0 ([x19,x24,x27]:List Bool)).bind fun x29=>
  bif (x29 != 0) then
    some x29
  else
    (f284 K a0 a1 a2 a4).bind fun(x38_0,x38_1)=>
    bif ((!x38_1)||((decide ((a4.length:Int) > (W (a0.Nodes - 1))))||(decide (x38_0 > a3)))) then
      some 43
    else
      some 0
def f91 (K:Nat) (a0:Scene) (a1:Int) (a2:Int) (a3:Int) (a4:Bool) (a5:List Reason):Option (Int):=
  (f113 K a0 ([a1]:List Int) a2).bind fun(x27_0,x27_1)=>
  bif (x27_1 != 0) then
    some x27_1
  else
    (f102 K a0).bind fun x34=>
    bif (decide ((a5.length:Int)≥x34.net.Nodes)) then
      some 43
    else
      Jo (α:=List Int→Option (Int)) (fun(vo16_1:List Int)=>
        (ix x27_0 0).bind fun y=>
        (f202 K x34 y.cell y.day).bind fun x68=>
        Option.bind (
          bif (!a4) then
            (f203 K a3).bind fun x74=>
            some (x74,x68,0)
          else
            some (a3,0,x68)) fun((v3,v20,v21):Int × Int × Int)=>
        (f204 K x34.net v20 v21 v3 vo16_1).bind fun x83=>
        some x83) fun(j:List Int→Option (Int))=>
      rngL a5 ([]:List Int) (fun(v45:Int) (vo16:List Int)=>
          j vo16) fun nx x v45 (vo16:List Int)=>
        (f201 K x34 x).bind fun x51=>
        bif (decide (x51 < 0)) then
          some 43
        else
          (app vo16 ([x51]:List Int)).bind fun z57=>
          nx (v45+1) z57
def f100 (K:Nat) :Option (Scene):=
  some (⟨(⟨([(⟨1,1000,0,10⟩:Cell),(⟨2,1200,1,20⟩:Cell)]:List Cell),([(⟨0,1⟩:Arr2_3)]:List Arr2_3),50,30,900⟩:Basin),([5]:List Int),([(⟨7,1,5,200,210⟩:Sight)]:List Sight),([]:List Change)⟩:Scene)
def f101 (K:Nat) (a0:List Int) (a1:List Int):Option (Bool):=
  bif ((a0.length:Int) != (a1.length:Int)) then
    some false
  else
    Jo (α:=Unit→Option (Bool)) (fun(_:Unit)=>
      some true) fun(j:Unit→Option (Bool))=>
    rngL a0 () (fun(v13:Int) (_:Unit)=>
        j ()) fun nx x v13 (_:Unit)=>
      (ix a1 v13).bind fun y=>
      bif (x != y) then
        some false
      else
        nx (v13+1) ()
def f21 (K:Nat) :Option (Bool):=
  (f100 K ).bind fun x20=>
  (f55 K x20.Basin 0).bind fun(x24_0,x24_1,x24_2)=>
  (f33 K x20 2 5).bind fun(x30_0,x30_1)=>
  (f39 K x20 ([1,2]:List Int) 5).bind fun(x36_0,x36_1)=>
  (f22 K x20).bind fun(x41_0,x41_1,x41_2)=>
  bif ((x24_0 != 130)||((!x24_1)||((x24_2 != 0)||((!(decide (x30_0=(⟨200,340⟩:Span))))||((x30_1 != 0)||((!(decide (x36_0=(⟨6000,8900⟩:Span))))||((x36_1 != 0)||((x41_2 != 0)||((x41_0.Nodes != 3)||(((x41_0.Diffs.length:Int) != 8)||((x41_1.length:Int) != 8))))))))))) then
    some false
  else
    Option.bind (
      (f91 K x20 2 5 340 true ([(⟨5,0,0,true⟩:Reason),(⟨3,0,5,false⟩:Reason)]:List Reason)).bind fun x98=>
      bif (x98 != 0) then
        some true
      else
        (f91 K x20 2 5 339 true ([(⟨5,0,0,true⟩:Reason),(⟨3,0,5,false⟩:Reason)]:List Reason)).bind fun x103=>
        bif (x103 != 43) then
          some true
        else
          (f26 K x20 ([([200,199]:List Int)]:List (List Int))).bind fun x110=>
          some (x110 != 53)) fun(v112:Bool)=>
    bif v112 then
      some false
    else
      (f53 K x20 (⟨9,2,5,341,400⟩:Sight)).bind fun(x116_0,x116_1)=>
      (f54 K x116_0).bind fun(x121_0,x121_1,x121_2)=>
      (f33 K (⟨x20.Basin,([5,6]:List Int),x20.Sights,([(⟨1,5,6,(-50),(-20)⟩:Change),(⟨2,5,6,(-100),0⟩:Change)]:List Change)⟩:Scene) 2 6).bind fun(x133_0,x133_1)=>
      (f40 K (⟨x20.Basin,([5,6]:List Int),x20.Sights,([(⟨1,5,6,(-50),(-20)⟩:Change),(⟨2,5,6,(-100),0⟩:Change)]:List Change)⟩:Scene) ([1,2]:List Int) 5 6).bind fun(x139_0,x139_1)=>
      (f81 K (⟨x20.Basin,([5,6]:List Int),x20.Sights,([(⟨1,5,6,(-50),(-20)⟩:Change),(⟨2,5,6,(-100),0⟩:Change)]:List Change)⟩:Scene) ([2]:List Int) 6).bind fun(x145_0,x145_1)=>
      bif ((x116_1 != 0)||((x121_2 != 0)||((x133_1 != 0)||((x139_1 != 0)||(x145_1 != 0))))) then
        some false
      else
        Option.bind (
          (f101 K x121_0 ([7,9]:List Int)).bind fun x168=>
          bif x168 then
            bif x121_1 then
              bif (decide (x133_0=(⟨150,320⟩:Span))) then
                bif (decide (x139_0=(⟨200,2500⟩:Span))) then
                  (f101 K x145_0 ([7]:List Int)).bind fun x185=>
                  bif x185 then
                    (f66 K (⟨(⟨([]:List Cell),([]:List Arr2_3),0,0,0⟩:Basin),([]:List Int),([]:List Sight),([]:List Change)⟩:Scene)).bind fun x189=>
                    some (x189==50)
                  else
                    some false
                else
                  some false
              else
                some false
            else
              some false
          else
            some false) fun(v0:Bool)=>
        some v0
end Go.Proofs.YthlchdnbokhclaaGreat.Ql
namespace Go.Proofs.YthlchdnbokhclaaGreat.Ql
open Go Go.Proofs
set_option maxRecDepth 100000
def AllS:List (Nat × Nat × Bool)→Prop
  | []=>True
  | p::r=>Siz Tryz.prog p.1 p.2.1 p.2.2∧AllS r
def AllF:List (Nat × Nat × Nat)→Prop
  | []=>True
  | p::r=>Fld Tryz.prog p.1 p.2.1 p.2.2∧AllF r
def lkS:List (Nat × Nat × Bool)→Nat→Option (Nat × Bool)
  | [],_=>none
  | p::r,t=>bif Nat.beq p.1 t then some p.2 else lkS r t
def lkF:List (Nat × Nat × Nat)→Nat→Nat→Option Nat
  | [],_,_=>none
  | p::r,t,f=>bif Nat.beq p.1 t&&Nat.beq p.2.1 f then some p.2.2 else lkF r t f
theorem lkS_ok:∀ {l:List (Nat × Nat × Bool)},AllS l→∀ {t n ag},lkS l t=some (n,ag)→Siz Tryz.prog t n ag
  | p::r,h,t,n,ag,e=>by
    simp only [lkS] at e
    cases hb:Nat.beq p.1 t
    · rw [hb] at e; exact lkS_ok h.2 e
    · rw [hb] at e
      obtain rfl:=Nat.eq_of_beq_eq_true hb
      have e:=Option.some.inj e
      have h1:=h.1
      rw [e] at h1
      exact h1
theorem lkF_ok:∀ {l:List (Nat × Nat × Nat)},AllF l→∀ {t f o},lkF l t f=some o→Fld Tryz.prog t f o
  | p::r,h,t,f,o,e=>by
    simp only [lkF] at e
    cases hb:(Nat.beq p.1 t&&Nat.beq p.2.1 f)
    · rw [hb] at e; exact lkF_ok h.2 e
    · rw [hb] at e
      simp only [Bool.and_eq_true] at hb
      obtain rfl:=Nat.eq_of_beq_eq_true hb.1
      obtain rfl:=Nat.eq_of_beq_eq_true hb.2
      have e:=Option.some.inj e
      have h1:=h.1
      rw [e] at h1
      exact h1
def tS:List (Nat × Nat × Bool):=[(3,1,false),(22,1,false),(23,1,false),(56,4,true),(97,2,true),(25,5,true),(26,1,false),(27,1,false),(28,1,false),(64,5,true),(30,8,true),(67,5,true),(32,1,false),(35,1,false),(42,4,true),(167,1,false),(34,2,true),(174,3,true),(4,1,false),(318,3,true),(191,1,false),(190,2,true),(49,2,true),(395,1,false),(180,1,false),(183,1,false),(293,2,true),(128,5,true),(132,16,true)]
def tF:List (Nat × Nat × Nat):=[(56,0,0),(56,1,1),(56,2,2),(56,3,3),(25,0,0),(25,1,1),(25,2,2),(25,3,3),(25,4,4),(64,0,0),(30,0,0),(64,1,1),(30,1,5),(64,2,2),(64,3,3),(64,4,4),(67,1,1),(67,2,2),(67,0,0),(67,3,3),(67,4,4),(30,2,6),(30,3,7),(170,0,0),(170,1,8),(34,1,1),(170,2,10),(174,0,0),(174,1,1),(174,2,2),(34,0,0),(318,2,2),(318,1,1),(318,0,0),(322,0,0),(190,1,1),(190,0,0),(49,0,0),(49,1,1),(307,1,2),(307,0,0),(307,2,3),(42,0,0),(42,1,1),(293,0,0),(293,1,1)]
theorem tS_ok:AllS tS:=⟨siz_3,siz_22,siz_23,siz_56,siz_97,siz_25,siz_26,siz_27,siz_28,siz_64,siz_30,siz_67,siz_32,siz_35,siz_42,siz_167,siz_34,siz_174,siz_4,siz_318,siz_191,siz_190,siz_49,siz_395,siz_180,siz_183,siz_293,siz_128,siz_132,trivial⟩
theorem tF_ok:AllF tF:=⟨fld_56_0,fld_56_1,fld_56_2,fld_56_3,fld_25_0,fld_25_1,fld_25_2,fld_25_3,fld_25_4,fld_64_0,fld_30_0,fld_64_1,fld_30_1,fld_64_2,fld_64_3,fld_64_4,fld_67_1,fld_67_2,fld_67_0,fld_67_3,fld_67_4,fld_30_2,fld_30_3,fld_170_0,fld_170_1,fld_34_1,fld_170_2,fld_174_0,fld_174_1,fld_174_2,fld_34_0,fld_318_2,fld_318_1,fld_318_0,fld_322_0,fld_190_1,fld_190_0,fld_49_0,fld_49_1,fld_307_1,fld_307_0,fld_307_2,fld_42_0,fld_42_1,fld_293_0,fld_293_1,trivial⟩
noncomputable def tab:Tab Tryz.prog:=⟨fun t=>lkS tS t,fun h=>lkS_ok tS_ok h,fun t f=>lkF tF t f,fun h=>lkF_ok tF_ok h⟩
theorem Qe {n:Nat} {ob0:List (Nat × Option AO)} {ops:Array Oper} {ob:List (Nat × Option AO)} {K:List It→AS→Prop} (k:Nat) {os os':List Oper} {d d':List It} {tm tm':List (Nat × AV)} (e:run tab n ops ob k os d tm=some (os',d',tm')) (h:RunD Tryz.prog n ob0 ops os' d' ⟨tm',ob⟩ K):RunD Tryz.prog n ob0 ops os d ⟨tm,ob⟩ K:=RunD.run k e h
theorem Qk {n:Nat} {ob0:List (Nat × Option AO)} {ops:Array Oper} {os:List Oper} {d:List It} {tm:List (Nat × AV)} {ob:List (Nat × Option AO)} {K:List It→AS→Prop} (t:Nat) {e b:Bool} (hb:e=b) (hl:lko tm t=some (.sc (.bool e)))
    (h:RunD Tryz.prog n ob0 ops os d ⟨fxt t b tm,ob⟩ K):RunD Tryz.prog n ob0 ops os d ⟨tm,ob⟩ K:=RunD.kn t hb hl h
section
variable {n:Nat} {ob0:List (Nat × Option AO)} {ops:Array Oper} {ob:List (Nat × Option AO)} {K:List It→AS→Prop} {os:List Oper} {d d':List It} {tm tm':List (Nat × AV)} {Q:Exit→AS→Prop} {id:Nat} {c:Code}
theorem Qd (e:run tab n ops ob os.length os d tm=some ([],d',tm')) (h:K d' ⟨tm',ob⟩):RunD Tryz.prog n ob0 ops os d ⟨tm,ob⟩ K:=RunD.all e h
theorem Tq (e:run tab n ops ob ops.toList.length ops.toList [] tm=some ([],d',tm')) (h:Q .normal ⟨tm',ob⟩):Tri Tryz.prog n ob0 (.region id ops false) ⟨tm,ob⟩ Q:=Tri.all e h
theorem Tp (e:run tab n ops ob ops.toList.length ops.toList [] tm=some ([],d',tm')) (h:Tri Tryz.prog n ob0 c ⟨tm',ob⟩ Q):Tri Tryz.prog n ob0 (.seq (.region id ops false) c) ⟨tm,ob⟩ Q:=Tri.alls e h
variable {s:AS} {rs:Array ResultVar}
theorem Rr {β:Type} {x r:β} (enc:β→AV) (eo:β→List (Nat × AO)) (is:List Nat) (h:some x=some r)
    (e1:(rnv tab s (mkM is (sm (eo x))).js rs.toList,(mkM is (sm (eo x))).ob,(mkM is (sm (eo x))).ok ob0 [],nvM (lo s.ob) (mkM is (sm (eo x))).js (mkM is (sm (eo x))))=(some (enc x),eo x,true,some (mkM is (sm (eo x)))))
    (hi:imM (lo s.ob) (mkM is (sm (eo x)))):RetQ Tryz.prog ob0 rs (enc r) (eo r) .ret s:=RetQ.ev tab enc eo is (.inr rfl) h e1 hi
theorem Rb {x r:Bool} (h:some x=some r) (e:rnv tab s [] rs.toList=some (Ab x)):RetQ Tryz.prog ob0 rs (Ab r) [] .ret s:=Rr (fun r=>Ab r) (fun _=>[]) [] h (by rw [show rnv tab s (mkM [] (sm [])).js rs.toList=some (Ab x) from e]; rfl) trivial
theorem Ri {x r:Int} (h:some x=some r) (e:rnv tab s [] rs.toList=some (Ai x)):RetQ Tryz.prog ob0 rs (Ai r) [] .ret s:=Rr (fun r=>Ai r) (fun _=>[]) [] h (by rw [show rnv tab s (mkM [] (sm [])).js rs.toList=some (Ai x) from e]; rfl) trivial
end
end Go.Proofs.YthlchdnbokhclaaGreat.Ql
namespace Go.Proofs.YthlchdnbokhclaaGreat.Ql
open Go Go.Proofs
theorem z.{u} {α:Sort u} {a:α}:a=a:=rfl
theorem u0:True:=trivial
theorem mh.{u} {α:Type u} {a:α} {l:List α}:a∈a::l:=List.Mem.head _
theorem mt.{u} {α:Type u} {a b:α} {l:List α} (h:a∈l):a∈b::l:=List.Mem.tail _ h
theorem nl {a b:Nat} (h:Nat.ble a b=true):a≤b:=Nat.le_of_ble_eq_true h
abbrev Xi:=@Exists.intro
abbrev An:=@And.intro
abbrev bs:=@bind_some
abbrev Ts:=@Tri.seq
abbrev Tc:=@Tri.cond
abbrev Rx:=@RunD.done
abbrev Tk:=@Tri.skip
abbrev Te:=@Tri.ret
abbrev cq:=@cond_t
abbrev cw:=@cond_f
abbrev Co:=@CallOK.of_tri
abbrev As:=@Ax.st_box
abbrev Tg:=@Tri.goto
abbrev Tn:=@Tri.ent
abbrev Td:=@Tri.drawn
abbrev Ab_:=@Ax.build
abbrev Al_:=@Ax.alloc
abbrev Eg:=@Ent.ghost
end Go.Proofs.YthlchdnbokhclaaGreat.Ql
